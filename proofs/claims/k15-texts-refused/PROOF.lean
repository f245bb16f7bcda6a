import PyProof.Rows.All
import Wide.All
import OpenK.AllK
import Wide.FinOn
import KE.KStateDown
import KE.KeyNested
import HandS.ForMost
import HandS.Exc
import HandS.More
import HandS.TryOnly
import HandS.ExcOwn
import HandS.WordsExc
import HandS.Defaults
import HandS.HeadHook1
import HandS.HeadHook2
import HandS.Star
import HandS.TupAny
import HandS.TupLe
import HandS.TupMul
import HandS.Deep
import HandS.Conv
import HandS.Style
import HandS.IsInst
import HandS.Wide
import PyProof.P3In
import PyProof.StrOps2
import KE.KDictKeyed
import KE.KDictLaw
import HandS.TupLen
import HandS.Comp
import KE.GoesNewDict
import KE.GoesEnum
import KE.GoesDict
import HandS.Iter
import KE.KDictWalk
import HandS.Small
import HandS.ExcIs
import HandS.TryMany
import HandS.Head0
import HandS.Head1
import HandS.Head2
import HandS.HeadEnd
import HandS.DictComp
import KE.KDictDisplayH
import HandS.ExcInit
import HandS.ExcField
import KE.KExcIs
import HandS.TupSets
import HandS.SetFor
import KE.DataMinMax
import KE.SortData
import KE.KEqDict
import KE.KRevSl
import KE.KDictCopyH
import KE.KDictSum
import HandS.Property
import PyProof.InstNe
import HandS.Text
import HandS.FStr
import KE.DataFind
import KE.DataMinKey
import HandS.SortKw
import KE.GoesNew
import PyProof.CompFree
import PySem.Challenge.RW_cutsagain_k15_texts_refused
set_option Elab.async false
set_option linter.all false
set_option maxRecDepth 100000
set_option maxHeartbeats 2000000
/-! Mi, part A: data, the mirror's monad, how data stands in the heap, the judgements. -/
namespace Mi
open PySem PySem.Spec PyProof.Rows L2

/-! ### data -/
abbrev St : Type := L2.St
inductive D where
  | non | bl (b : Bool) | int (i : Int) | str (s : Str) | tup (l : List D) | lst (l : List D) | dct (l : List (D × D)) | obj (l : List D) | row
inductive OD where
  | lst (l : List D) | dct (l : List (D × D))
def OD.d : OD → D
  | .lst l => .lst l
  | .dct l => .dct l
inductive Slot where
  | no | val (d : D) | own (o : OD) | pin | box (l : List (D × List D))
/-- a name's own container -/
def Slot.isC : Slot → Bool
  | .own _ => true
  | .box _ => true
  | _ => false
def Slot.isB : Slot → Bool
  | .box _ => true
  | _ => false
structure RowS where
  xs : List Int
  at_ : Int
  big : Int
  seed : Int
structure Env where
  sl : List Slot
  row : RowS
structure Exn where
  cls : Str
  fs : List (Str × D)
inductive Res (α : Type) where
  | ok (a : α) (e : Env) | exc (x : Exn) (e : Env) | err
abbrev M (α : Type) : Type := Env → Res α
def pureM {α : Type} (a : α) : M α := fun e => .ok a e
def bindM {α β : Type} (m : M α) (f : α → M β) : M β := fun e => match m e with
  | .ok a e' => f a e'
  | .exc x e' => .exc x e'
  | .err => .err
def errM {α : Type} : M α := fun _ => .err
def liftO {α : Type} (o : Option α) : M α := fun e => match o with
  | some a => .ok a e
  | none => .err
def Res.wp {α : Type} (r : Res α) (A : α → Env → Prop) (B : Exn → Env → Prop) : Prop := match r with
  | .ok a e => A a e
  | .exc x e => B x e
  | .err => False
theorem wp_mono {α : Type} {r : Res α} {A A' : α → Env → Prop} {B B' : Exn → Env → Prop} (h : r.wp A B) (hA : ∀ a e, A a e → A' a e) (hB : ∀ x e, B x e → B' x e) : r.wp A' B' := by
  cases r with
  | ok a e => exact hA _ _ h
  | exc x e => exact hB _ _ h
  | err => exact h
theorem wp_bind {α β : Type} {m : M α} {f : α → M β} {e : Env} {A : β → Env → Prop} {B : Exn → Env → Prop} : (bindM m f e).wp A B ↔ (m e).wp (fun a e' => (f a e').wp A B) B := by
  unfold bindM
  cases m e with
  | ok a e' => exact Iff.rfl
  | exc x e' => exact Iff.rfl
  | err => exact Iff.rfl

mutual
def D.key : D → Option NestedKey
  | .non => some .none
  | .int i => some (.num i)
  | .str s => some (.text s)
  | .tup l => (D.keys l).map .tup
  | .bl b => some (.num (if b = true then 1 else 0))
  | .lst _ => none
  | .dct _ => none
  | .obj _ => none
  | .row => none
def D.keys : List D → Option (List NestedKey)
  | [] => some []
  | d :: ds => match D.key d, D.keys ds with
    | some k, some ks => some (k :: ks)
    | _, _ => none
end
/-- a dict's key -/
def D.hk (d : D) : Option NestedKey := match d.key with
  | some k => if k.depth ≤ 8 then some k else none
  | none => none
theorem hk_of {d : D} {k : NestedKey} (h : d.hk = some k) : d.key = some k ∧ k.depth ≤ 8 := by
  unfold D.hk at h
  cases e : d.key with
  | none =>
    rw [e] at h
    cases h
  | some k' =>
    rw [e] at h
    by_cases c : k'.depth ≤ 8
    · simp only [if_pos c] at h
      cases h
      exact ⟨rfl, c⟩
    · simp only [if_neg c] at h
      cases h

/-! ### a dict whose keys are nested -/
def DEnt (w : World) (e : NestedKey × V × V) (de : DictEntry) : Prop := de.hash = e.1.hash w ∧ RelV e.2.1 de.key ∧ RelV e.2.2 de.val
/-- all keys are tuples, or all are numbers -/
def Uni (es : List (NestedKey × V × V)) : Prop := (∀ e ∈ es, ∃ a, e.2.1 = .ref a) ∨ (∀ e ∈ es, ∃ i, e.2.1 = .int i)
/-- what is true of a dict's object -/
def DF (w : World) (a : Addr) (es : List (NestedKey × V × V)) (o : Obj) : Prop :=
  (a == sysModules) = false ∧ es.length ≤ sizeLine ∧ (es.map (·.1)).Nodup ∧ Uni es ∧ o.ExactDict ∧ ∃ des ep, o.data = .dict des ep ∧ Paired (DEnt w) es des.toList
/-- this very object stands at a -/
abbrev objO (a : Addr) (o : Obj) : HO := .ext fun h => h.get? a = some o
def DictAt (w : World) (H : Hp) (a : Addr) (es : List (NestedKey × V × V)) : Prop := ∃ o, H a = some (objO a o) ∧ DF w a es o
theorem DictAt.mono {w : World} {H H' : Hp} {a : Addr} {es : List (NestedKey × V × V)} (h : DictAt w H a es) (s : Same H H') : DictAt w H' a es := let ⟨o, h1, h2⟩ := h; ⟨o, s _ _ h1, h2⟩

/-! ### data in the heap -/
/-- the fields of a Rule -/
def ruleF (vs : List V) : List (Str × V) := (["many", "wide", "rows", "low", "high"] : List Str).zip vs
section
variable (w : World) (K : PySem.W.Frag) (ra : Addr)
mutual
inductive Rep (F : Hp) : V → D → Prop
  | non : Rep F .non .non
  | bl (b : Bool) : Rep F (.bl b) (.bl b)
  | int (i : Int) : Rep F (.int i) (.int i)
  | str (s : Str) : Rep F (.str s) (.str s)
  | tup {a : Addr} {vs : List V} {ds : List D} : SqT K F a vs → RepA F vs ds → Rep F (.ref a) (.tup ds)
  | lst {a : Addr} {vs : List V} {ds : List D} : F a = some (.lst vs) → RepA F vs ds → Rep F (.ref a) (.lst ds)
  | dct {a : Addr} {es : List (NestedKey × V × V)} {kvs : List (D × D)} : DictAt w F a es → RepE F es kvs → Rep F (.ref a) (.dct kvs)
  | obj {a dx : Addr} {vs : List V} {ds : List D} : F a = some (.ins (He.ga K "Rule") dx (ruleF vs)) → vs.length = 5 → RepA F vs ds → Rep F (.ref a) (.obj ds)
  | row : Rep F (.ref ra) .row
inductive RepA (F : Hp) : List V → List D → Prop
  | nil : RepA F [] []
  | cons {v : V} {d : D} {vs : List V} {ds : List D} : Rep F v d → RepA F vs ds → RepA F (v :: vs) (d :: ds)
inductive RepE (F : Hp) : List (NestedKey × V × V) → List (D × D) → Prop
  | nil : RepE F [] []
  | cons {k : NestedKey} {kv vv : V} {dk dv : D} {es : List (NestedKey × V × V)} {kvs : List (D × D)} : dk.hk = some k → Rep F kv dk → Rep F vv dv → RepE F es kvs → RepE F ((k, kv, vv) :: es) ((dk, dv) :: kvs)
end
end
theorem Same.seqT {K : PySem.W.Frag} {H H' : Hp} {a : Addr} {xs : List V} (e : Same H H') (h : SqT K H a xs) : SqT K H' a xs := by
  rcases h with (h | ⟨o, h⟩) | h
  · exact .inl (.inl (e _ _ h))
  · exact .inl (.inr ⟨o, e _ _ h⟩)
  · exact .inr h
section
variable {w : World} {K : PySem.W.Frag} {ra : Addr} {F F' : Hp}
mutual
theorem Rep.mono (e : Same F F') : ∀ {v : V} {d : D}, Rep w K ra F v d → Rep w K ra F' v d
  | _, _, .non => .non
  | _, _, .bl b => .bl b
  | _, _, .int i => .int i
  | _, _, .str s => .str s
  | _, _, .tup h r => .tup (Same.seqT e h) (RepA.mono e r)
  | _, _, .lst h r => .lst (e _ _ h) (RepA.mono e r)
  | _, _, .dct h r => .dct (h.mono e) (RepE.mono e r)
  | _, _, .obj h hl r => .obj (e _ _ h) hl (RepA.mono e r)
  | _, _, .row => .row
theorem RepA.mono (e : Same F F') : ∀ {vs : List V} {ds : List D}, RepA w K ra F vs ds → RepA w K ra F' vs ds
  | _, _, .nil => .nil
  | _, _, .cons h r => .cons (Rep.mono e h) (RepA.mono e r)
theorem RepE.mono (e : Same F F') : ∀ {es : List (NestedKey × V × V)} {kvs : List (D × D)}, RepE w K ra F es kvs → RepE w K ra F' es kvs
  | _, _, .nil => .nil
  | _, _, .cons k h1 h2 r => .cons k (Rep.mono e h1) (Rep.mono e h2) (RepE.mono e r)
end
theorem RepA.length : ∀ {vs : List V} {ds : List D}, RepA w K ra F vs ds → vs.length = ds.length
  | _, _, .nil => rfl
  | _, _, .cons _ r => congrArg (· + 1) (RepA.length r)
theorem RepE.length : ∀ {es : List (NestedKey × V × V)} {kvs : List (D × D)}, RepE w K ra F es kvs → es.length = kvs.length
  | _, _, .nil => rfl
  | _, _, .cons _ _ _ r => congrArg (· + 1) (RepE.length r)
theorem RepA.get : ∀ {vs : List V} {ds : List D} {i : Nat} {d : D}, RepA w K ra F vs ds → ds[i]? = some d → ∃ v, vs[i]? = some v ∧ Rep w K ra F v d
  | _, _, i, d, .nil, e => by simp at e
  | _, _, 0, d, .cons h r, e => by
    simp at e
    subst e
    exact ⟨_, rfl, h⟩
  | _, _, i + 1, d, .cons h r, e => by
    obtain ⟨v, h1, h2⟩ := RepA.get (i := i) r (by simpa using e)
    exact ⟨v, by simpa using h1, h2⟩
theorem RepA.get' : ∀ {vs : List V} {ds : List D} {i : Nat} {v : V}, RepA w K ra F vs ds → vs[i]? = some v → ∃ d, ds[i]? = some d ∧ Rep w K ra F v d
  | _, _, i, d, .nil, e => by simp at e
  | _, _, 0, d, .cons h r, e => by
    simp at e
    subst e
    exact ⟨_, rfl, h⟩
  | _, _, i + 1, d, .cons h r, e => by
    obtain ⟨v, h1, h2⟩ := RepA.get' (i := i) r (by simpa using e)
    exact ⟨v, by simpa using h1, h2⟩
theorem RepA.append : ∀ {vs us : List V} {ds es : List D}, RepA w K ra F vs ds → RepA w K ra F us es → RepA w K ra F (vs ++ us) (ds ++ es)
  | _, _, _, _, .nil, h => h
  | _, _, _, _, .cons a r, h => .cons a (RepA.append r h)
theorem RepA.take : ∀ {vs : List V} {ds : List D} (n : Nat), RepA w K ra F vs ds → RepA w K ra F (vs.take n) (ds.take n)
  | _, _, 0, _ => by simp; exact .nil
  | _, _, _ + 1, .nil => .nil
  | _, _, n + 1, .cons a r => .cons a (RepA.take n r)
theorem RepA.drop : ∀ {vs : List V} {ds : List D} (n : Nat), RepA w K ra F vs ds → RepA w K ra F (vs.drop n) (ds.drop n)
  | _, _, 0, r => r
  | _, _, _ + 1, .nil => .nil
  | _, _, n + 1, .cons _ r => RepA.drop n r
theorem RepA.set {v : V} {d : D} (h : Rep w K ra F v d) : ∀ {vs : List V} {ds : List D} (n : Nat), RepA w K ra F vs ds → RepA w K ra F (vs.set n v) (ds.set n d)
  | _, _, 0, .nil => .nil
  | _, _, _ + 1, .nil => .nil
  | _, _, 0, .cons _ r => .cons h r
  | _, _, n + 1, .cons a r => .cons a (RepA.set h n r)
theorem RepA.reverse : ∀ {vs : List V} {ds : List D}, RepA w K ra F vs ds → RepA w K ra F vs.reverse ds.reverse
  | _, _, .nil => .nil
  | _, _, .cons a r => by
    rw [List.reverse_cons, List.reverse_cons]
    exact RepA.append (RepA.reverse r) (.cons a .nil)
theorem RepA.ints : ∀ {vs : List V} {is : List Int}, RepA w K ra F vs (is.map D.int) → vs = is.map V.int
  | vs, [], h => by
    cases h
    rfl
  | vs, i :: is, h => by
    cases h with
    | cons a r =>
      cases a
      rw [RepA.ints r]
      rfl
theorem RepA.ofInts : ∀ (is : List Int), RepA w K ra F (is.map V.int) (is.map D.int)
  | [] => .nil
  | i :: is => .cons (.int i) (RepA.ofInts is)
end

/-! ### the state -/
/-- what is to stand as it is; what is not to be given away -/
structure Kp where
  h : Hp
  pin : Addr → Prop
  me : V := .non
section
variable (w : World) (K : PySem.W.Frag) (ra : Addr)
def RepO (F H : Hp) (a : Addr) : OD → Prop
  | .lst ds => ∃ vs, H a = some (.lst vs) ∧ RepA w K ra F vs ds
  | .dct kvs => ∃ es, DictAt w H a es ∧ RepE w K ra F es kvs
/-- a dict whose values are lists that nobody else knows -/
inductive RepB (F H : Hp) : List (NestedKey × V × V) → List (D × List D) → Prop
  | nil : RepB F H [] []
  | cons {k : NestedKey} {kv : V} {b : Addr} {vs : List V} {dk : D} {ds : List D} {es : List (NestedKey × V × V)} {kls : List (D × List D)} : dk.hk = some k → Rep w K ra F kv dk → H b = some (.lst vs) → RepA w K ra F vs ds → RepB F H es kls → RepB F H ((k, kv, .ref b) :: es) ((dk, ds) :: kls)
/-- what a dict holds -/
def Inn (H : Hp) (a p : Addr) : Prop := ∃ o des ep, H a = some (objO a o) ∧ o.data = .dict des ep ∧ ∃ de ∈ des.toList, de.val = Value.ref p
/-- where a name's own container stands -/
def Foot (H : Hp) (s : Slot) (a p : Addr) : Prop := p = a ∨ (s.isB = true ∧ Inn H a p)
def BoxAt (HK : Kp) (F H : Hp) (a : Addr) (l : List (D × List D)) : Prop := ∃ es, DictAt w H a es ∧ RepB w K ra F H es l ∧ (es.map (·.2.2)).Nodup ∧ ∀ p, (p = a ∨ Inn H a p) → F p = none ∧ HK.h p = none ∧ p ≠ ra ∧ H p ≠ none
def SlotOk (HK : Kp) (F H : Hp) (ov : Option (Option V)) : Slot → Prop
  | .no => True
  | .val d => ∃ v, ov = some (some v) ∧ Rep w K ra F v d
  | .own o => ∃ a, ov = some (some (.ref a)) ∧ RepO w K ra F H a o ∧ F a = none ∧ HK.h a = none ∧ a ≠ ra
  | .pin => ov = some (some HK.me)
  | .box l => ∃ a, ov = some (some (.ref a)) ∧ BoxAt w K ra HK F H a l
/-- no two names' containers stand at the same place -/
def Sep (e : Env) (σ : St) (H : Hp) : Prop := ∀ (i j : Nat) (s s' : Slot) (a a' p : Addr), i ≠ j → e.sl[i]? = some s → e.sl[j]? = some s' → s.isC = true → s'.isC = true → σ[i]? = some (some (.ref a)) → σ[j]? = some (some (.ref a')) → Foot H s a p → ¬ Foot H s' a' p
/-- a place that no name's container takes -/
def NotIn (e : Env) (σ : St) (H : Hp) (p : Addr) : Prop := ∀ (i : Nat) (s : Slot) (a : Addr), e.sl[i]? = some s → s.isC = true → σ[i]? = some (some (.ref a)) → ¬ Foot H s a p
def RowOk (F H : Hp) (r : RowS) : Prop := ∃ L, H ra = some (.lst [.ref L, .int r.at_, .int r.big, .int r.seed]) ∧ F L = some (.lst (r.xs.map V.int))
structure Rel (HK : Kp) (F : Hp) (e : Env) (σ : St) (H : Hp) : Prop where
  fh : Same F H
  kh : Same HK.h H
  len : e.sl.length = σ.length
  sl : ∀ (i : Nat) (s : Slot), e.sl[i]? = some s → SlotOk w K ra HK F H σ[i]? s
  sep : Sep e σ H
  row : RowOk ra F H e.row
  fra : F ra = none
  kra : HK.h ra = none
  pn : ∀ a, HK.pin a → HK.h a ≠ none ∧ F a = none
end
section
variable {w : World} {K : PySem.W.Frag} {ra : Addr} {HK : Kp} {F F' H H' : Hp} {e : Env} {σ : St}
theorem Inn.congr {a p : Addr} (h : H' a = H a) : Inn H' a p ↔ Inn H a p := by
  unfold Inn
  rw [h]
theorem Foot.congr {s : Slot} {a p : Addr} (h : H' a = H a) : Foot H' s a p ↔ Foot H s a p := by
  unfold Foot
  rw [Inn.congr h]
theorem mem_paired {α β : Type} {R : α → β → Prop} : ∀ {l : List α} {m : List β}, Paired R l m → ∀ x ∈ l, ∃ y ∈ m, R x y
  | _, _, .nil, x, h => by cases h
  | _, _, .cons r t, x, h => by
    rcases List.mem_cons.mp h with rfl | h
    · exact ⟨_, List.mem_cons_self, r⟩
    · obtain ⟨y, h1, h2⟩ := mem_paired t x h
      exact ⟨y, List.mem_cons_of_mem _ h1, h2⟩
theorem mem_paired' {α β : Type} {R : α → β → Prop} : ∀ {l : List α} {m : List β}, Paired R l m → ∀ y ∈ m, ∃ x ∈ l, R x y
  | _, _, .nil, x, h => by cases h
  | _, _, .cons r t, x, h => by
    rcases List.mem_cons.mp h with rfl | h
    · exact ⟨_, List.mem_cons_self, r⟩
    · obtain ⟨y, h1, h2⟩ := mem_paired' t x h
      exact ⟨y, List.mem_cons_of_mem _ h1, h2⟩
/-- what stands in a dict is in it -/
theorem DictAt.inn {a p : Addr} {es : List (NestedKey × V × V)} (h : DictAt w H a es) {e : NestedKey × V × V} (he : e ∈ es) (hp : e.2.2 = .ref p) : Inn H a p := by
  obtain ⟨o, h1, _, _, _, _, _, des, ep, hd, pr⟩ := h
  obtain ⟨de, m, _, _, r⟩ := mem_paired pr e he
  rw [hp] at r
  exact ⟨o, des, ep, h1, hd, de, m, r⟩
theorem objO_inj {a : Addr} {o o' : Obj} (hd : ∀ c d s, o ≠ ⟨c, d, .freed, s⟩) (h : objO a o = objO a o') : o = o' := by
  injection h with h
  have h2 := congrFun h ⟨Array.replicate (a + 1) o, {}⟩
  have h3 : Heap.get? ⟨Array.replicate (a + 1) o, {}⟩ a = some o := by
    unfold Heap.get?
    simp only [Array.getElem?_replicate, Nat.lt_succ_self, if_true]
    split
    · rename_i c d s e
      exact absurd (Option.some.inj e) (hd c d s)
    · rfl
  have h4 : Heap.get? ⟨Array.replicate (a + 1) o, {}⟩ a = some o' := by rw [← h2]; exact h3
  rw [h3] at h4
  exact Option.some.inj h4
theorem RelV.isRef {v : V} {p : Addr} (h : RelV v (Value.ref p)) : v = .ref p := by
  cases v with
  | ref a =>
    have : Value.ref p = Value.ref a := h
    injection this with e
    rw [e]
  | non => cases (show Value.ref p = _ from h)
  | bl b => cases (show Value.ref p = _ from h)
  | ty n => cases (show Value.ref p = _ from h)
  | int i => obtain ⟨t, e⟩ := h; cases e
  | str i => obtain ⟨t, e⟩ := h; cases e
  | byt i => obtain ⟨t, e⟩ := h; cases e
  | flt i => obtain ⟨t, e⟩ := h; cases e
/-- .. and nothing else -/
theorem DF.inn {a p : Addr} {es : List (NestedKey × V × V)} {o : Obj} (h : DF w a es o) (h1 : H a = some (objO a o)) (q : Inn H a p) : ∃ e ∈ es, e.2.2 = .ref p := by
  obtain ⟨_, _, _, _, _, des, ep, hd, pr⟩ := h
  obtain ⟨o', des', ep', h2, hd', de, m, r⟩ := q
  rw [h1] at h2
  have e := objO_inj (fun c d s z => by rw [z] at hd; cases hd) (Option.some.inj h2)
  subst e
  rw [hd] at hd'
  injection hd' with e1 e2
  subst e1
  obtain ⟨x, hx, _, _, rv⟩ := mem_paired' pr de m
  rw [r] at rv
  exact ⟨x, hx, RelV.isRef rv⟩
theorem RepB.mono {es : List (NestedKey × V × V)} {l : List (D × List D)} (h : RepB w K ra F H es l) (a : Same F F') (b : ∀ e ∈ es, ∀ p, e.2.2 = .ref p → H' p = H p) : RepB w K ra F' H' es l := by
  induction h with
  | nil => exact .nil
  | cons hk r hb ra' _ ih => exact .cons hk (r.mono a) ((b _ List.mem_cons_self _ rfl).trans hb) (ra'.mono a) (ih fun e he => b e (List.mem_cons_of_mem _ he))
theorem BoxAt.mono {a : Addr} {l : List (D × List D)} (h : BoxAt w K ra HK F H a l) (s : Same F F') (b : ∀ p, (p = a ∨ Inn H a p) → H' p = H p ∧ F' p = F p) : BoxAt w K ra HK F' H' a l := by
  obtain ⟨es, at_, r, nd, f⟩ := h
  have ha := (b a (.inl rfl)).1
  refine ⟨es, ?_, r.mono s fun e he p hp => (b p (.inr (at_.inn he hp))).1, nd, fun p hp => ?_⟩
  · obtain ⟨o, h1, h2⟩ := at_
    exact ⟨o, ha.trans h1, h2⟩
  · have hp' : p = a ∨ Inn H a p := hp.imp id (Inn.congr ha).mp
    obtain ⟨f1, f2, f3, f4⟩ := f p hp'
    obtain ⟨b1, b2⟩ := b p hp'
    exact ⟨b2.trans f1, f2, f3, by rw [b1]; exact f4⟩
theorem SlotOk.mono {ov : Option (Option V)} {s : Slot} (h : SlotOk w K ra HK F H ov s) (a : Same F F') (b : ∀ q, s.isC = true → ov = some (some (.ref q)) → ∀ p, Foot H s q p → H' p = H p ∧ F' p = F p) : SlotOk w K ra HK F' H' ov s := by
  cases s with
  | no => trivial
  | pin => exact h
  | box l =>
    obtain ⟨p, e1, r⟩ := h
    exact ⟨p, e1, r.mono a fun q hq => b p rfl e1 q (hq.imp id fun z => ⟨rfl, z⟩)⟩
  | val d =>
    obtain ⟨v, e1, r⟩ := h
    exact ⟨v, e1, r.mono a⟩
  | own o =>
    obtain ⟨p, e1, r, f, k, n⟩ := h
    obtain ⟨b1, b2⟩ := b p rfl e1 p (.inl rfl)
    refine ⟨p, e1, ?_, b2.trans f, k, n⟩
    cases o with
    | lst ds =>
      obtain ⟨vs, h1, h2⟩ := r
      exact ⟨vs, b1.trans h1, h2.mono a⟩
    | dct kvs =>
      obtain ⟨es, ⟨o, h1, h3⟩, h2⟩ := r
      exact ⟨es, ⟨o, b1.trans h1, h3⟩, h2.mono a⟩
theorem RowOk.mono {r : RowS} (h : RowOk ra F H r) (a : Same F F') (b : H' ra = H ra) : RowOk ra F' H' r := by
  obtain ⟨L, h1, h2⟩ := h
  exact ⟨L, b.trans h1, a _ _ h2⟩
theorem Rel.own_some (R : Rel w K ra HK F e σ H) {i : Nat} {o : OD} {p : Addr} (h : e.sl[i]? = some (.own o)) (hs : σ[i]? = some (some (.ref p))) : H p ≠ none := by
  obtain ⟨q, e1, r, _⟩ := R.sl i _ h
  rw [hs] at e1
  cases e1
  cases o with
  | lst ds =>
    obtain ⟨vs, h1, _⟩ := r
    rw [h1]
    exact fun z => by cases z
  | dct kvs =>
    obtain ⟨es, ⟨o, h1, _⟩, _⟩ := r
    rw [h1]
    exact fun z => by cases z
/-- where containers stand, nobody else stands -/
theorem Rel.foot (R : Rel w K ra HK F e σ H) {i : Nat} {s : Slot} {a p : Addr} (h : e.sl[i]? = some s) (hc : s.isC = true) (hs : σ[i]? = some (some (.ref a))) (hf : Foot H s a p) : F p = none ∧ HK.h p = none ∧ p ≠ ra ∧ H p ≠ none := by
  have ok := R.sl i s h
  cases s with
  | own o =>
    obtain ⟨q, e1, r, fa, ka, na⟩ := ok
    rw [hs] at e1
    cases e1
    rcases hf with rfl | ⟨z, _⟩
    · exact ⟨fa, ka, na, R.own_some h hs⟩
    · cases z
  | box l =>
    obtain ⟨q, e1, es, _, _, _, f⟩ := ok
    rw [hs] at e1
    cases e1
    exact f p (hf.imp id fun z => z.2)
  | _ => cases hc
theorem Sep.heap (S : Sep e σ H) (k : ∀ (i : Nat) (s : Slot) (a : Addr), e.sl[i]? = some s → s.isC = true → σ[i]? = some (some (.ref a)) → H' a = H a) : Sep e σ H' := fun i j s s' a a' p hij h1 h2 c1 c2 h3 h4 f => by
  rw [Foot.congr (k j s' a' h2 c2 h4)]
  rw [Foot.congr (k i s a h1 c1 h3)] at f
  exact S i j s s' a a' p hij h1 h2 c1 c2 h3 h4 f
theorem Rel.sep_new (R : Rel w K ra HK F e σ H) {p : Addr} (hp : H p = none) (o : HO) : Sep e σ (upd H p o) := R.sep.heap fun i s a h c hs => upd_ne fun z => (R.foot h c hs (.inl rfl)).2.2.2 (z ▸ hp)
theorem NotIn.heap {p : Addr} (N : NotIn e σ H p) (k : ∀ (i : Nat) (s : Slot) (a : Addr), e.sl[i]? = some s → s.isC = true → σ[i]? = some (some (.ref a)) → H' a = H a) : NotIn e σ H' p := fun i s a h c hs f => N i s a h c hs ((Foot.congr (k i s a h c hs)).mp f)
theorem Rel.notIn_new (R : Rel w K ra HK F e σ H) {p : Addr} (hp : H p = none) (o : HO) : NotIn e σ (upd H p o) p := fun i s a h c hs f => by
  have ne : a ≠ p := fun z => (R.foot h c hs (.inl rfl)).2.2.2 (by rw [z]; exact hp)
  exact (R.foot h c hs ((Foot.congr (upd_ne ne)).mp f)).2.2.2 hp
theorem NotIn.ne {p : Addr} (N : NotIn e σ H p) {i : Nat} {s : Slot} (h : e.sl[i]? = some s) (c : s.isC = true) : σ[i]? ≠ some (some (.ref p)) := fun z => N i s p h c z (.inl rfl)
/-- one slot changed: none of one's own any more -/
theorem Sep.off (S : Sep e σ H) {i : Nat} {s : Slot} (hc : s.isC = false) (ov : Option V) : Sep { e with sl := e.sl.set i s } (σ.set i ov) H := fun j k s1 s2 a a' p hjk h1 h2 c1 c2 h3 h4 f => by
  have out : ∀ {m : Nat} {t : Slot}, (e.sl.set i s)[m]? = some t → t.isC = true → i ≠ m := fun {m t} h c z => by
    subst z
    have hi : i < e.sl.length := by
      have := (List.getElem?_eq_some_iff.mp h).1
      rw [List.length_set] at this
      exact this
    rw [List.getElem?_set_self hi] at h
    cases h
    rw [hc] at c
    cases c
  have nj := out h1 c1
  have nk := out h2 c2
  simp only [List.getElem?_set_ne nj] at h1 h3
  simp only [List.getElem?_set_ne nk] at h2 h4
  exact S j k s1 s2 a a' p hjk h1 h2 c1 c2 h3 h4 f
theorem set_id {σ : St} {i : Nat} {ov : Option V} (h : σ[i]? = some ov) : σ.set i ov = σ := by
  apply List.ext_getElem?
  intro j
  by_cases c : i = j
  · subst c
    rw [List.getElem?_set_self (List.getElem?_eq_some_iff.mp h).1, h]
  · rw [List.getElem?_set_ne c]
/-- .. with the name as it was -/
theorem Sep.off' (S : Sep e σ H) {i : Nat} {s : Slot} (hc : s.isC = false) : Sep { e with sl := e.sl.set i s } σ H := fun j k s1 s2 a a' p hjk h1 h2 c1 c2 h3 h4 f => by
  have out : ∀ {m : Nat} {t : Slot}, (e.sl.set i s)[m]? = some t → t.isC = true → i ≠ m := fun {m t} h c z => by
    subst z
    have hi : i < e.sl.length := by
      have := (List.getElem?_eq_some_iff.mp h).1
      rw [List.length_set] at this
      exact this
    rw [List.getElem?_set_self hi] at h
    cases h
    rw [hc] at c
    cases c
  have nj := out h1 c1
  have nk := out h2 c2
  simp only [List.getElem?_set_ne nj] at h1
  simp only [List.getElem?_set_ne nk] at h2
  exact S j k s1 s2 a a' p hjk h1 h2 c1 c2 h3 h4 f
/-- one slot changed: a container that stands where no other stands -/
theorem Sep.on (S : Sep e σ H) {i : Nat} {s : Slot} {a : Addr} (hi : i < σ.length) (k : ∀ (j : Nat) (s' : Slot) (a' p : Addr), i ≠ j → e.sl[j]? = some s' → s'.isC = true → σ[j]? = some (some (.ref a')) → Foot H s a p → ¬ Foot H s' a' p) : Sep { e with sl := e.sl.set i s } (σ.set i (some (.ref a))) H := fun j l s1 s2 b b' p hjl h1 h2 c1 c2 h3 h4 f => by
  have at_ : ∀ {m : Nat} {t : Slot} {b : Addr}, i = m → (e.sl.set i s)[m]? = some t → (σ.set i (some (V.ref a)))[m]? = some (some (.ref b)) → t = s ∧ b = a := fun {m t b} z h h' => by
    subst z
    have hl : i < e.sl.length := by
      have := (List.getElem?_eq_some_iff.mp h).1
      rw [List.length_set] at this
      exact this
    rw [List.getElem?_set_self hl] at h
    rw [List.getElem?_set_self hi] at h'
    cases h
    cases h'
    exact ⟨rfl, rfl⟩
  by_cases c : i = j
  · obtain ⟨e1, e2⟩ := at_ c h1 h3
    subst e1 e2
    have n : i ≠ l := fun z => hjl (c.symm.trans z)
    simp only [List.getElem?_set_ne n] at h2 h4
    exact k l s2 b' p n h2 c2 h4 f
  · simp only [List.getElem?_set_ne c] at h1 h3
    by_cases c' : i = l
    · obtain ⟨e1, e2⟩ := at_ c' h2 h4
      subst e1 e2
      exact fun f2 => k j s1 b p c h1 c1 h3 f2 f
    · simp only [List.getElem?_set_ne c'] at h2 h4
      exact S j l s1 s2 b b' p hjl h1 h2 c1 c2 h3 h4 f
theorem Rel.ra_some (R : Rel w K ra HK F e σ H) : H ra ≠ none := by
  obtain ⟨L, h1, _⟩ := R.row
  rw [h1]
  exact fun z => by cases z
theorem same_new {p : Addr} {o : HO} (h : H p = none) : Same H (upd H p o) := fun b u q => by
  rw [upd_ne (ne_of_none q h)]
  exact q
/-- a new object, frozen at once -/
theorem Rel.alloc (R : Rel w K ra HK F e σ H) {p : Addr} (hp : H p = none) (o : HO) : Rel w K ra HK (upd F p o) e σ (upd H p o) ∧ Same F (upd F p o) := by
  have fp : F p = none := R.fh.free hp
  have sf : Same F (upd F p o) := same_new fp
  have nra : ra ≠ p := fun z => R.ra_some (z ▸ hp)
  refine ⟨⟨fun b u q => ?_, fun b u q => ?_, R.len, fun i s h => ?_, R.sep_new hp o, R.row.mono sf (upd_ne nra), by rw [upd_ne nra]; exact R.fra, R.kra, fun b hb => ⟨(R.pn b hb).1, by rw [upd_ne fun z => (R.pn b hb).1 (by rw [z]; exact R.kh.free hp)]; exact (R.pn b hb).2⟩⟩, sf⟩
  · by_cases hb : b = p
    · subst hb
      rw [upd_same] at q ⊢
      exact q
    · rw [upd_ne hb] at q ⊢
      exact R.fh b u q
  · rw [upd_ne (ne_of_none (R.kh b u q) hp)]
    exact R.kh b u q
  · refine (R.sl i s h).mono sf fun q hc e1 p' hf => ?_
    have nq : p' ≠ p := fun z => (R.foot h hc e1 hf).2.2.2 (z ▸ hp)
    exact ⟨upd_ne nq, upd_ne nq⟩
/-- a new object that nobody knows yet -/
theorem Rel.grow (R : Rel w K ra HK F e σ H) {p : Addr} (hp : H p = none) (o : HO) : Rel w K ra HK F e σ (upd H p o) := by
  have nra : ra ≠ p := fun z => R.ra_some (z ▸ hp)
  refine ⟨fun b u q => ?_, fun b u q => ?_, R.len, fun i s h => ?_, R.sep_new hp o, R.row.mono (Same.refl F) (upd_ne nra), R.fra, R.kra, R.pn⟩
  · rw [upd_ne (ne_of_none (R.fh b u q) hp)]
    exact R.fh b u q
  · rw [upd_ne (ne_of_none (R.kh b u q) hp)]
    exact R.kh b u q
  · refine (R.sl i s h).mono (Same.refl F) fun q hc e1 p' hf => ?_
    exact ⟨upd_ne fun z => (R.foot h hc e1 hf).2.2.2 (z ▸ hp), rfl⟩
end

/-! ### readings -/
/-- an exception as the mirror tells it -/
def ExIs (w : World) (K : PySem.W.Frag) (ra : Addr) (F H : Hp) (x : Exn) (cls : Value) (d : Option Addr) : Prop :=
  cls = .ref (He.ga K x.cls) ∧ ((x.fs = [] ∧ d = none) ∨ x.fs ≠ [] ∧ ∃ dd vs, d = some dd ∧ H dd = some (.xd ((x.fs.map (·.1)).zip vs)) ∧ RepA w K ra F vs (x.fs.map (·.2)) ∧ F dd = none ∧ dd ≠ ra)
def exW (w : World) (K : PySem.W.Frag) (ra : Addr) (HK : Kp) (F : Hp) (W : WX) : Exn → Env → Prop := fun x e' => ∀ cls d σ' F' H', Same F F' → Rel w K ra HK F' e' σ' H' → ExIs w K ra F' H' x cls d → W cls d σ' H'
theorem exW_mono {w : World} {K : PySem.W.Frag} {ra : Addr} {HK : Kp} {F F1 : Hp} {W : WX} (s : Same F F1) {x : Exn} {e' : Env} (h : exW w K ra HK F W x e') : exW w K ra HK F1 W x e' := fun cls d σ' F' H' s' => h cls d σ' F' H' (s.trans s')
/-- how a result of the machine (β) stands for one of the mirror (α): HK, σ, the mirror's state, F, H -/
abbrev RT (β α : Type) := World → PySem.W.Frag → Addr → Kp → St → Env → Hp → Hp → β → α → Prop
def okG {β α : Type} (T : RT β α) (w : World) (K : PySem.W.Frag) (ra : Addr) (HK : Kp) (F : Hp) (σ : St) (Q : β → Hp → Prop) : α → Env → Prop := fun a e' => ∀ b F' H', Same F F' → Rel w K ra HK F' e' σ H' → T w K ra HK σ e' F' H' b a → Q b H'
def tG {β α : Type} (T : RT β α) (w : World) (K : PySem.W.Frag) (W : WX) (m : M α) : St → Hp → (β → Hp → Prop) → Prop := fun σ H Q =>
  ∃ ra HK F e, Rel w K ra HK F e σ H ∧ (m e).wp (okG T w K ra HK F σ Q) (exW w K ra HK F W)
def TV : RT V D := fun w K ra _ _ _ F _ v d => Rep w K ra F v d
def TAs : RT (List V) (List D) := fun w K ra _ _ _ F _ v d => RepA w K ra F v d
def TB : RT Bool Bool := fun _ _ _ _ _ _ _ _ b b' => b = b'
/-- a container by its name (slot i), or a value -/
inductive Ref where
  | val (d : D) | slot (i : Nat)
def TR : RT V Ref := fun w K ra _ σ _ F _ v r => match r with
  | .val d => Rep w K ra F v d
  | .slot i => σ[i]? = some (some v)
/-- a new container that nobody else knows -/
def TO : RT V OD := fun w K ra HK σ e F H v o => ∃ a, v = .ref a ∧ RepO w K ra F H a o ∧ F a = none ∧ HK.h a = none ∧ a ≠ ra ∧ NotIn e σ H a
theorem okG_mono {β α : Type} {T : RT β α} {w : World} {K : PySem.W.Frag} {ra : Addr} {HK : Kp} {F F1 : Hp} {σ : St} {Q : β → Hp → Prop} (s : Same F F1) {a : α} {e' : Env} (h : okG T w K ra HK F σ Q a e') : okG T w K ra HK F1 σ Q a e' :=
  fun b F' H' s' => h b F' H' (s.trans s')
/-- THE STEP: a part is read, what follows is still told by the mirror -/
theorem step {β α γ : Type} {T : RT β α} {w : World} {K : PySem.W.Frag} {ra : Addr} {HK : Kp} {F H : Hp} {W : WX} {e : Env} {σ : St} {m : M α} {g : α → M γ} {A : Hp → γ → Env → Prop} {Q : β → Hp → Prop} (R : Rel w K ra HK F e σ H)
    (h : (bindM m g e).wp (A F) (exW w K ra HK F W)) (hA : ∀ F' c e', Same F F' → A F c e' → A F' c e')
    (k : ∀ F' e' a b H', Same F F' → Rel w K ra HK F' e' σ H' → T w K ra HK σ e' F' H' b a → (g a e').wp (A F') (exW w K ra HK F' W) → Q b H') : tG T w K W m σ H Q :=
  ⟨ra, HK, F, e, R, wp_mono (wp_bind.mp h) (fun a e' h' b F' H' s R' r => k F' e' a b H' s R' r (wp_mono h' (fun c e2 q => hA F' c e2 s q) fun x e2 q => exW_mono s q)) fun _ _ q => q⟩
theorem stepG {β α δ γ : Type} {T : RT β α} {T' : RT δ γ} {w : World} {K : PySem.W.Frag} {ra : Addr} {HK : Kp} {F H : Hp} {W : WX} {e : Env} {σ : St} {m : M α} {g : α → M γ} {Q' : δ → Hp → Prop} {Q : β → Hp → Prop} (R : Rel w K ra HK F e σ H)
    (h : (bindM m g e).wp (okG T' w K ra HK F σ Q') (exW w K ra HK F W))
    (k : ∀ F' e' a b H', Same F F' → Rel w K ra HK F' e' σ H' → T w K ra HK σ e' F' H' b a → (g a e').wp (okG T' w K ra HK F' σ Q') (exW w K ra HK F' W) → Q b H') : tG T w K W m σ H Q :=
  step (A := fun F => okG T' w K ra HK F σ Q') R h (fun F' c e' s q => okG_mono s q) k
/-- the last part: its value is the whole's -/
theorem last {β α : Type} {T : RT β α} {w : World} {K : PySem.W.Frag} {ra : Addr} {HK : Kp} {F H : Hp} {W : WX} {e : Env} {σ : St} {m : M α} {Q : β → Hp → Prop} (R : Rel w K ra HK F e σ H) (h : (m e).wp (okG T w K ra HK F σ Q) (exW w K ra HK F W)) : tG T w K W m σ H Q :=
  ⟨ra, HK, F, e, R, h⟩

/-! ### the judgements -/
section
variable (X : Cx) (W : WX)
def PM (e : Expr) (m : M D) : Prop := PE X e (tG TV X.w X.K W m)
def PMT (e : Expr) (m : M Bool) : Prop := PT X e (tG TB X.w X.K W m)
def PMW (e : Expr) (m : M Bool) : Prop := PW X e (tG TB X.w X.K W m)
def PMA (es : List Expr) (m : M (List D)) : Prop := PA X es (tG TAs X.w X.K W m)
def PMR (e : Expr) (m : M Ref) : Prop := PE X e (tG TR X.w X.K W m)
def PMO (e : Expr) (m : M OD) : Prop := PE X e (tG TO X.w X.K W m)
end
section
variable {X : Cx}
theorem PE.weaken {e : Expr} {t t' : TE} (h : PE X e t) (k : ∀ σ H Q, t' σ H Q → t σ H Q) : PE X e t' := ⟨fun pins s σ H Q I hw => h.run pins s σ H Q I (k σ H Q hw)⟩
theorem PT.weaken {e : Expr} {t t' : TT} (h : PT X e t) (k : ∀ σ H Q, t' σ H Q → t σ H Q) : PT X e t' := ⟨fun pins s σ H Q I hw => h.run pins s σ H Q I (k σ H Q hw)⟩
theorem PW.weaken {e : Expr} {t t' : TT} (h : PW X e t) (k : ∀ σ H Q, t' σ H Q → t σ H Q) : PW X e t' := ⟨fun wh pins s σ H Q I hw => h.run wh pins s σ H Q I (k σ H Q hw)⟩
theorem PA.weaken {es : List Expr} {t t' : TA} (h : PA X es t) (k : ∀ σ H Q, t' σ H Q → t σ H Q) : PA X es t' := ⟨fun pos pins s σ H Q I hw => h.run pos pins s σ H Q I (k σ H Q hw)⟩
theorem PS.weaken {st : Stmt} {t t' : TS} (h : PS X st t) (k : ∀ D σ H, t' D σ H → t D σ H) : PS X st t' := ⟨fun pins s σ H D I hw => h.run pins s σ H D I (k D σ H hw)⟩
theorem PSs.weaken {st : List Stmt} {t t' : TS} (h : PSs X st t) (k : ∀ D σ H, t' D σ H → t D σ H) : PSs X st t' := ⟨fun pins s σ H D I hw => h.run pins s σ H D I (k D σ H hw)⟩
end
end Mi

set_option Elab.async false
set_option linter.all false
set_option maxRecDepth 100000
set_option maxHeartbeats 2000000
/-! Mi, part B: names, constants, displays, operators. -/
namespace Mi
open PySem PySem.Spec PyProof.Rows L2

/-! ### the mirror's words -/
/-- a name's value; a container of one's own is given away (from then on nobody changes it) -/
def boxD (l : List (D × List D)) : D := .dct (l.map fun p => (p.1, .lst p.2))
def readM (i : Nat) : M D := fun e => match e.sl[i]? with
  | some (.val d) => .ok d e
  | some (.own o) => .ok o.d { e with sl := e.sl.set i (.val o.d) }
  | some (.box l) => .ok (boxD l) { e with sl := e.sl.set i (.val (boxD l)) }
  | _ => .err
def refM (i : Nat) : M Ref := fun e => match e.sl[i]? with
  | some (.val _) => .ok (.slot i) e
  | some (.own _) => .ok (.slot i) e
  | some (.box _) => .ok (.slot i) e
  | _ => .err
def mapM' {α β : Type} (m : M α) (f : α → β) : M β := bindM m fun a => pureM (f a)
def derefM (r : Ref) : M D := match r with
  | .val d => pureM d
  | .slot i => fun e => match e.sl[i]? with
    | some (.val d) => .ok d e
    | some (.own o) => .ok o.d e
    | _ => .err

section
variable {w : World} {K : PySem.W.Frag} {ra : Addr} {HK : Kp} {F H : Hp} {e : Env} {σ : St}
/-- an owned container is given away -/
theorem Rel.freeze (R : Rel w K ra HK F e σ H) {i : Nat} {o : OD} (h : e.sl[i]? = some (.own o)) :
    ∃ F' a, σ[i]? = some (some (.ref a)) ∧ Same F F' ∧ Rep w K ra F' (.ref a) o.d ∧ Rel w K ra HK F' { e with sl := e.sl.set i (.val o.d) } σ H := by
  obtain ⟨a, e1, r, fa, ka, na⟩ := R.sl i _ h
  have hi : i < e.sl.length := (List.getElem?_eq_some_iff.mp h).1
  obtain ⟨u, hu, rep⟩ : ∃ u, H a = some u ∧ ∀ F', Same F F' → F' a = some u → Rep w K ra F' (.ref a) o.d := by
    cases o with
    | lst ds =>
      obtain ⟨vs, h1, h2⟩ := r
      exact ⟨_, h1, fun F' s q => .lst q (h2.mono s)⟩
    | dct kvs =>
      obtain ⟨es, ⟨o, h1, h3⟩, h2⟩ := r
      exact ⟨_, h1, fun F' s q => .dct ⟨o, q, h3⟩ (h2.mono s)⟩
  have sf : Same F (upd F a u) := same_new fa
  have rp := rep _ sf upd_same
  refine ⟨upd F a u, a, e1, sf, rp, ⟨fun b z q => ?_, R.kh, by rw [List.length_set]; exact R.len, fun j s hj => ?_, R.sep.off' rfl, R.row.mono sf rfl, by rw [upd_ne (Ne.symm na)]; exact R.fra, R.kra, fun b hb => ⟨(R.pn b hb).1, by rw [upd_ne fun z => (R.pn b hb).1 (by rw [z]; exact ka)]; exact (R.pn b hb).2⟩⟩⟩
  · by_cases hb : b = a
    · subst hb
      rw [upd_same] at q
      cases q
      exact hu
    · rw [upd_ne hb] at q
      exact R.fh b z q
  · by_cases hj2 : i = j
    · subst hj2
      rw [List.getElem?_set_self hi] at hj
      cases hj
      exact ⟨_, e1, rp⟩
    · rw [List.getElem?_set_ne hj2] at hj
      refine (R.sl j s hj).mono sf fun q hc eq p hf => ?_
      have : p ≠ a := fun z => R.sep i j _ s a q p hj2 h hj rfl hc e1 eq (.inl z) hf
      exact ⟨rfl, upd_ne this⟩
/-- .. a dict of lists, with all its lists -/
theorem Rel.freezeB (R : Rel w K ra HK F e σ H) {i : Nat} {l : List (D × List D)} (h : e.sl[i]? = some (.box l)) :
    ∃ F' a, σ[i]? = some (some (.ref a)) ∧ Same F F' ∧ Rep w K ra F' (.ref a) (boxD l) ∧ Rel w K ra HK F' { e with sl := e.sl.set i (.val (boxD l)) } σ H := by
  classical
  obtain ⟨a, e1, es, at_, rb, nd, f⟩ := R.sl i _ h
  have hi : i < e.sl.length := (List.getElem?_eq_some_iff.mp h).1
  have ft : ∀ p, Foot H (.box l) a p → p = a ∨ Inn H a p := fun p hp => hp.imp id fun z => z.2
  have tf : ∀ p, p = a ∨ Inn H a p → Foot H (.box l) a p := fun p hp => hp.imp id fun z => ⟨rfl, z⟩
  let F' : Hp := fun p => if Foot H (.box l) a p then H p else F p
  have Fi : ∀ p, Foot H (.box l) a p → F' p = H p := fun p hp => if_pos hp
  have Fo : ∀ p, ¬ Foot H (.box l) a p → F' p = F p := fun p hp => if_neg hp
  have sf : Same F F' := fun b z q => by
    rw [Fo b fun z => by rw [(f b (ft b z)).1] at q; cases q]
    exact q
  have rp : Rep w K ra F' (.ref a) (boxD l) := by
    refine .dct (es := es) ?_ ?_
    · obtain ⟨o, h1, h2⟩ := at_
      exact ⟨o, (Fi a (.inl rfl)).trans h1, h2⟩
    · have key : ∀ {es : List (NestedKey × V × V)} {l : List (D × List D)}, RepB w K ra F H es l → (∀ e ∈ es, ∀ p, e.2.2 = .ref p → F' p = H p) → RepE w K ra F' es (l.map fun p => (p.1, D.lst p.2)) := by
        intro es l rb
        induction rb with
        | nil => exact fun _ => .nil
        | cons hk r hb ra' _ ih => exact fun k => .cons hk (r.mono sf) (.lst ((k _ List.mem_cons_self _ rfl).trans hb) (ra'.mono sf)) (ih fun e he => k e (List.mem_cons_of_mem _ he))
      exact key rb fun e he p hp => Fi p (tf p (.inr (at_.inn he hp)))
  refine ⟨F', a, e1, sf, rp, ⟨fun b z q => ?_, R.kh, by rw [List.length_set]; exact R.len, fun j s hj => ?_, R.sep.off' rfl, R.row.mono sf rfl, ?_, R.kra, fun b hb => ⟨(R.pn b hb).1, ?_⟩⟩⟩
  · by_cases hb : Foot H (.box l) a b
    · rw [Fi b hb] at q
      exact q
    · rw [Fo b hb] at q
      exact R.fh b z q
  · by_cases hj2 : i = j
    · subst hj2
      rw [List.getElem?_set_self hi] at hj
      cases hj
      exact ⟨_, e1, rp⟩
    · rw [List.getElem?_set_ne hj2] at hj
      exact (R.sl j s hj).mono sf fun q hc eq p hf => ⟨rfl, Fo p fun z => R.sep i j _ s a q p hj2 h hj rfl hc e1 eq z hf⟩
  · rw [Fo ra fun z => (f ra (ft ra z)).2.2.1 rfl]
    exact R.fra
  · rw [Fo b fun z => (R.pn b hb).1 (f b (ft b z)).2.1]
    exact (R.pn b hb).2
end

section
variable {X : Cx} {W : WX}
/-! ### names, constants -/
theorem pm_var (i : Nat) {x : Str} {pos : Pos} (hN : X.N[i]? = some x := by rfl) (hv : Vis X.env.scope x := by first | exact Or.inl rfl | exact Or.inr (Or.inl rfl) | exact Or.inr (Or.inr rfl)) (hd : (x == ("__debug__" : Str)) = false := by decide)
    (hcd : (x == ("__classdict__" : Str)) = false := by decide) : PM X W (.Name x pos) (readM i) := by
  refine PE.weaken (pe_var hN hv hd hcd) ?_
  rintro σ H Q ⟨ra, HK, F, e, R, h⟩
  unfold readM at h
  cases q : e.sl[i]? with
  | none =>
    rw [q] at h
    exact h.elim
  | some s =>
    rw [q] at h
    cases s with
    | no => exact h.elim
    | pin => exact h.elim
    | val d =>
      obtain ⟨v, e1, r⟩ := R.sl i _ q
      exact ⟨v, e1, h v F H (Same.refl F) R r⟩
    | own o =>
      obtain ⟨F', a, e1, s, rp, R'⟩ := R.freeze q
      exact ⟨_, e1, h _ F' H s R' rp⟩
    | box l =>
      obtain ⟨F', a, e1, s, rp, R'⟩ := R.freezeB q
      exact ⟨_, e1, h _ F' H s R' rp⟩
theorem pm_ref (i : Nat) {x : Str} {pos : Pos} (hN : X.N[i]? = some x := by rfl) (hv : Vis X.env.scope x := by first | exact Or.inl rfl | exact Or.inr (Or.inl rfl) | exact Or.inr (Or.inr rfl)) (hd : (x == ("__debug__" : Str)) = false := by decide)
    (hcd : (x == ("__classdict__" : Str)) = false := by decide) : PMR X W (.Name x pos) (refM i) := by
  refine PE.weaken (pe_var hN hv hd hcd) ?_
  rintro σ H Q ⟨ra, HK, F, e, R, h⟩
  unfold refM at h
  cases q : e.sl[i]? with
  | none =>
    rw [q] at h
    exact h.elim
  | some s =>
    rw [q] at h
    cases s with
    | no => exact h.elim
    | pin => exact h.elim
    | val d =>
      obtain ⟨v, e1, r⟩ := R.sl i _ q
      exact ⟨v, e1, h v F H (Same.refl F) R e1⟩
    | own o =>
      obtain ⟨a, e1, r, _⟩ := R.sl i _ q
      exact ⟨_, e1, h _ F H (Same.refl F) R e1⟩
    | box o =>
      obtain ⟨a, e1, r⟩ := R.sl i _ q
      exact ⟨_, e1, h _ F H (Same.refl F) R e1⟩
/-- any value as a container -/
theorem pm_toRef {e : Expr} {m : M D} (h : PM X W e m) : PMR X W e (mapM' m Ref.val) := by
  refine PE.weaken h ?_
  rintro σ H Q ⟨ra, HK, F, e, R, hw⟩
  unfold mapM' at hw
  refine stepG R hw fun F' e' d v H' s R' r q => ?_
  exact q v F' H' (Same.refl F') R' r
theorem tG_const {v : V} {d : D} (hr : ∀ w K ra F, Rep w K ra F v d) {σ : St} {H : Hp} {Q : VK} (h : tG TV X.w X.K W (pureM d) σ H Q) : Q v H := by
  obtain ⟨ra, HK, F, e, R, h⟩ := h
  exact h v F H (Same.refl F) R (hr _ _ _ _)
theorem pm_int {i : Int} {j pos} : PM X W (.Constant (.int i) j pos) (pureM (.int i)) := PE.weaken pe_int fun _ _ _ h => tG_const (fun _ _ _ _ => .int i) h
theorem pm_bl {b : Bool} {j pos} : PM X W (.Constant (.bool b) j pos) (pureM (.bl b)) := PE.weaken pe_bl fun _ _ _ h => tG_const (fun _ _ _ _ => .bl b) h
theorem pm_non {j pos} : PM X W (.Constant .none j pos) (pureM .non) := PE.weaken pe_non fun _ _ _ h => tG_const (fun _ _ _ _ => .non) h
theorem pm_str {x : Str} {j pos} : PM X W (.Constant (.str x) j pos) (pureM (.str x)) := PE.weaken pe_str fun _ _ _ h => tG_const (fun _ _ _ _ => .str x) h
/-- a module's constant -/
theorem pm_gint {x : Str} {i : Int} {pos : Pos} (hm : ∃ t, X.mg x = some (.int i t)) (hg : Gl X x := by rfl) (hd : (x == ("__debug__" : Str)) = false := by decide) : PM X W (.Name x pos) (pureM (.int i)) :=
  let ⟨t, hm⟩ := hm
  PE.weaken (pe_glob (v := .int i) hg hm ⟨t, rfl⟩ hd) fun _ _ _ h => tG_const (fun _ _ _ _ => .int i) h
theorem pm_gstr {x z : Str} {pos : Pos} (hm : ∃ t, X.mg x = some (.str z t)) (hg : Gl X x := by rfl) (hd : (x == ("__debug__" : Str)) = false := by decide) : PM X W (.Name x pos) (pureM (.str z)) :=
  let ⟨t, hm⟩ := hm
  PE.weaken (pe_glob (v := .str z) hg hm ⟨t, rfl⟩ hd) fun _ _ _ h => tG_const (fun _ _ _ _ => .str z) h
/-! ### argument lists -/
theorem pma_nil : PMA X W [] (pureM []) := PA.weaken pa_nil fun σ H Q h => by
  obtain ⟨ra, HK, F, e, R, h⟩ := h
  exact h [] F H (Same.refl F) R .nil
def consM (m : M D) (r : M (List D)) : M (List D) := bindM m fun d => bindM r fun ds => pureM (d :: ds)
theorem pma_cons {e : Expr} {es : List Expr} {m : M D} {r : M (List D)} (ha : PM X W e m) (hr : PMA X W es r) (hs : starEach (e :: es) X.env = (false, eval e X.env) :: starEach es X.env := by rfl) : PMA X W (e :: es) (consM m r) := by
  refine PA.weaken (pa_cons ha hr hs) ?_
  rintro σ H Q ⟨ra, HK, F, e, R, h⟩
  unfold consM at h
  refine stepG R h fun F1 e1 d v H1 s1 R1 r1 q1 => ?_
  refine stepG R1 q1 fun F2 e2 ds vs H2 s2 R2 r2 q2 => ?_
  exact q2 _ F2 H2 (Same.refl F2) R2 (.cons (Rep.mono s2 r1) r2)
/-- the items of a tuple or a list -/
def D.items : D → Option (List D)
  | .tup l => some l
  | .lst l => some l
  | _ => none
def starM (m : M Ref) (r : M (List D)) : M (List D) := bindM m fun x => bindM (derefM x) fun d => match d.items with
  | some xs => bindM r fun ds => pureM (xs ++ ds)
  | none => errM
/-- what a container is, when it is used -/
inductive Held (w : World) (K : PySem.W.Frag) (ra : Addr) (F H : Hp) : V → D → Prop
  | val {v : V} {d : D} : Rep w K ra F v d → Held w K ra F H v d
  | own {a : Addr} {o : OD} : RepO w K ra F H a o → F a = none → a ≠ ra → Held w K ra F H (.ref a) o.d
theorem Rel.deref {w : World} {K : PySem.W.Frag} {ra : Addr} {HK : Kp} {F H : Hp} {e : Env} {σ : St} (R : Rel w K ra HK F e σ H) {v : V} {r : Ref} (t : TR w K ra HK σ e F H v r) {α : Type} {g : D → M α} {A : α → Env → Prop} {B : Exn → Env → Prop}
    (h : (bindM (derefM r) g e).wp A B) : ∃ d, Held w K ra F H v d ∧ (g d e).wp A B ∧ derefM r e = .ok d e := by
  cases r with
  | val d => exact ⟨d, .val t, h, rfl⟩
  | slot i =>
    have t' : σ[i]? = some (some v) := t
    unfold bindM derefM at h
    simp only at h
    cases q : e.sl[i]? with
    | none =>
      rw [q] at h
      exact h.elim
    | some s =>
      rw [q] at h
      cases s with
      | no => exact h.elim
      | pin => exact h.elim
      | box _ => exact h.elim
      | val d =>
        obtain ⟨v', e1, rp⟩ := R.sl i _ q
        rw [t'] at e1
        cases e1
        exact ⟨d, .val rp, h, by unfold derefM; simp only [q]⟩
      | own o =>
        obtain ⟨a, e1, rp, fa, ka, na⟩ := R.sl i _ q
        rw [t'] at e1
        cases e1
        exact ⟨o.d, .own rp fa na, h, by unfold derefM; simp only [q]⟩
theorem Held.lst {w : World} {K : PySem.W.Frag} {ra : Addr} {F H : Hp} (fh : Same F H) {v : V} {ds : List D} (h : Held w K ra F H v (.lst ds)) : ∃ a vs, v = .ref a ∧ H a = some (.lst vs) ∧ RepA w K ra F vs ds := by
  generalize e : D.lst ds = d at h
  cases h with
  | val r =>
    subst e
    cases r with
    | lst h1 h2 => exact ⟨_, _, rfl, fh _ _ h1, h2⟩
  | @own a o r _ _ =>
    cases o with
    | lst l =>
      cases e
      obtain ⟨vs, h1, h2⟩ := r
      exact ⟨_, _, rfl, h1, h2⟩
    | dct l => cases e
theorem Held.tup {w : World} {K : PySem.W.Frag} {ra : Addr} {F H : Hp} (fh : Same F H) {v : V} {ds : List D} (h : Held w K ra F H v (.tup ds)) : ∃ a vs, v = .ref a ∧ SqT K H a vs ∧ RepA w K ra F vs ds := by
  generalize e : D.tup ds = d at h
  cases h with
  | val r =>
    subst e
    cases r with
    | tup h1 h2 => exact ⟨_, _, rfl, Same.seqT fh h1, h2⟩
  | @own a o r _ _ => cases o <;> cases e
theorem Held.dct {w : World} {K : PySem.W.Frag} {ra : Addr} {F H : Hp} (fh : Same F H) {v : V} {kvs : List (D × D)} (h : Held w K ra F H v (.dct kvs)) : ∃ a es, v = .ref a ∧ DictAt w H a es ∧ RepE w K ra F es kvs := by
  generalize e : D.dct kvs = d at h
  cases h with
  | val r =>
    subst e
    cases r with
    | dct h1 h2 => exact ⟨_, _, rfl, h1.mono fh, h2⟩
  | @own a o r _ _ =>
    cases o with
    | dct l =>
      cases e
      obtain ⟨es, h1, h2⟩ := r
      exact ⟨_, _, rfl, h1, h2⟩
    | lst l => cases e
/-! ### displays -/
def small {α : Type} (l : List α) : M Unit := fun e => if l.length ≤ 1000000 then .ok () e else .err
theorem wp_small {α β : Type} {l : List α} {g : M β} {e : Env} {A : β → Env → Prop} {B : Exn → Env → Prop} (h : (bindM (small l) (fun _ => g) e).wp A B) : l.length ≤ sizeLine ∧ (g e).wp A B := by
  unfold bindM small at h
  by_cases q : l.length ≤ 1000000
  · simp only [if_pos q] at h
    exact ⟨Nat.le_trans q (by decide), h⟩
  · simp only [if_neg q] at h
    exact h.elim
def tupM (r : M (List D)) : M D := bindM r fun ds => bindM (small ds) fun _ => pureM (.tup ds)
theorem pm_tup {es : List Expr} {k : Nat} {pos : Pos} {r : M (List D)} (h : PMA X W es r) : PM X W (.Tuple es k pos) (tupM r) := by
  refine PE.weaken (pe_tup h) ?_
  rintro σ H Q ⟨ra, HK, F, e, R, h⟩
  unfold tupM at h
  refine stepG R h fun F1 e1 ds vs H1 s1 R1 r1 q1 => ?_
  obtain ⟨hz, q2⟩ := wp_small q1
  have r1' : RepA X.w X.K ra F1 vs ds := r1
  refine ⟨by rw [r1'.length]; exact hz, fun p hp => ?_⟩
  obtain ⟨R2, s2⟩ := R1.alloc hp (.tup vs)
  exact q2 _ _ _ s2 R2 (.tup (.of upd_same) (RepA.mono s2 r1'))
/-- a new container, known to nobody -/
theorem fresh_own {w : World} {K : PySem.W.Frag} {ra : Addr} {HK : Kp} {F H : Hp} {e : Env} {σ : St} (R : Rel w K ra HK F e σ H) {p : Addr} (hp : H p = none) {o : OD} (r : RepO w K ra F (upd H p (match o with
    | .lst _ => .lst []
    | .dct _ => .lst [])) p o ∨ True) : F p = none ∧ HK.h p = none ∧ p ≠ ra ∧ ∀ {u : HO}, NotIn e σ (upd H p u) p :=
  ⟨R.fh.free hp, R.kh.free hp, fun z => R.ra_some (z ▸ hp), R.notIn_new hp _⟩
def lstM (r : M (List D)) : M OD := bindM r fun ds => bindM (small ds) fun _ => pureM (.lst ds)
theorem pmo_lst {es : List Expr} {pos : Pos} {r : M (List D)} (h : PMA X W es r) : PMO X W (.List es pos) (lstM r) := by
  refine PE.weaken (pe_lst h) ?_
  rintro σ H Q ⟨ra, HK, F, e, R, h⟩
  unfold lstM at h
  refine stepG R h fun F1 e1 ds vs H1 s1 R1 r1 q1 => ?_
  obtain ⟨hz, q2⟩ := wp_small q1
  have r1' : RepA X.w X.K ra F1 vs ds := r1
  refine ⟨by rw [r1'.length]; exact hz, fun p hp => ?_⟩
  obtain ⟨f1, f2, f3, f4⟩ := fresh_own R1 hp (o := .lst ds) (.inr trivial)
  exact q2 _ _ _ (Same.refl F1) (R1.grow hp _) ⟨p, rfl, ⟨vs, upd_same, r1'⟩, f1, f2, f3, f4⟩
/-- a new container, given away at once -/
def giveM (m : M OD) : M D := mapM' m OD.d
theorem Rel.give {w : World} {K : PySem.W.Frag} {ra : Addr} {HK : Kp} {F H : Hp} {e : Env} {σ : St} (R : Rel w K ra HK F e σ H) {v : V} {o : OD} (t : TO w K ra HK σ e F H v o) : ∃ F', Same F F' ∧ Rep w K ra F' v o.d ∧ Rel w K ra HK F' e σ H := by
  obtain ⟨a, rfl, r, fa, ka, na, nd⟩ := t
  obtain ⟨u, hu, rep⟩ : ∃ u, H a = some u ∧ ∀ F', Same F F' → F' a = some u → Rep w K ra F' (.ref a) o.d := by
    cases o with
    | lst ds =>
      obtain ⟨vs, h1, h2⟩ := r
      exact ⟨_, h1, fun F' s q => .lst q (h2.mono s)⟩
    | dct kvs =>
      obtain ⟨es, ⟨o, h1, h3⟩, h2⟩ := r
      exact ⟨_, h1, fun F' s q => .dct ⟨o, q, h3⟩ (h2.mono s)⟩
  have sf : Same F (upd F a u) := same_new fa
  refine ⟨upd F a u, sf, rep _ sf upd_same, ⟨fun b z q => ?_, R.kh, R.len, fun j s hj => ?_, R.sep, R.row.mono sf rfl, by rw [upd_ne (Ne.symm na)]; exact R.fra, R.kra, fun b hb => ⟨(R.pn b hb).1, by rw [upd_ne fun z => (R.pn b hb).1 (by rw [z]; exact ka)]; exact (R.pn b hb).2⟩⟩⟩
  · by_cases hb : b = a
    · subst hb
      rw [upd_same] at q
      cases q
      exact hu
    · rw [upd_ne hb] at q
      exact R.fh b z q
  · exact (R.sl j s hj).mono sf fun q hc eq p hf => ⟨rfl, upd_ne fun z => nd j s q hj hc eq (z ▸ hf)⟩
theorem pm_give {e : Expr} {m : M OD} (h : PMO X W e m) : PM X W e (giveM m) := by
  refine PE.weaken h ?_
  rintro σ H Q ⟨ra, HK, F, e, R, hw⟩
  unfold giveM mapM' at hw
  refine stepG R hw fun F1 e1 o v H1 s1 R1 r1 q1 => ?_
  obtain ⟨F2, s2, rp, R2⟩ := R1.give r1
  exact q1 v F2 H1 s2 R2 rp
end
end Mi

set_option Elab.async false
set_option linter.all false
set_option maxRecDepth 100000
set_option maxHeartbeats 2000000
/-! Mi, part C: equality, comparisons, arithmetic. -/
namespace Mi
open PySem PySem.Spec PyProof.Rows L2

/-! ### data are equal -/
mutual
def D.beq : D → D → Bool
  | .non, e => match e with | .non => true | _ => false
  | .bl b, e => match e with | .bl c => b == c | _ => false
  | .int i, e => match e with | .int j => decide (i = j) | _ => false
  | .str x, e => match e with | .str y => decide (x = y) | _ => false
  | .tup l, e => match e with | .tup m => D.beqs l m | _ => false
  | .lst l, e => match e with | .lst m => D.beqs l m | _ => false
  | .dct l, e => match e with | .dct m => D.beqp l m | _ => false
  | .obj l, e => match e with | .obj m => D.beqs l m | _ => false
  | .row, e => match e with | .row => true | _ => false
def D.beqs : List D → List D → Bool
  | [], m => match m with | [] => true | _ => false
  | x :: xs, m => match m with | y :: ys => D.beq x y && D.beqs xs ys | [] => false
def D.beqp : List (D × D) → List (D × D) → Bool
  | [], m => match m with | [] => true | _ => false
  | (x, x') :: xs, m => match m with | (y, y') :: ys => D.beq x y && (D.beq x' y' && D.beqp xs ys) | [] => false
end
mutual
theorem D.beq_self : ∀ d : D, D.beq d d = true
  | .non => rfl
  | .bl b => by simp [D.beq]
  | .int i => by simp [D.beq]
  | .str x => by simp [D.beq]
  | .tup l => by rw [D.beq]; exact D.beqs_self l
  | .lst l => by rw [D.beq]; exact D.beqs_self l
  | .dct l => by rw [D.beq]; exact D.beqp_self l
  | .obj l => by rw [D.beq]; exact D.beqs_self l
  | .row => rfl
theorem D.beqs_self : ∀ l : List D, D.beqs l l = true
  | [] => rfl
  | x :: xs => by rw [D.beqs, D.beq_self x, D.beqs_self xs]; rfl
theorem D.beqp_self : ∀ l : List (D × D), D.beqp l l = true
  | [] => rfl
  | (x, y) :: xs => by rw [D.beqp, D.beq_self x, D.beq_self y, D.beqp_self xs]; rfl
end
mutual
theorem D.eq_of_beq : ∀ d e : D, D.beq d e = true → d = e
  | .non, e, h => by cases e <;> simp [D.beq] at h ⊢
  | .bl b, e, h => by cases e <;> simp [D.beq] at h ⊢; exact h
  | .int i, e, h => by cases e <;> simp [D.beq] at h ⊢; exact h
  | .str x, e, h => by cases e <;> simp [D.beq] at h ⊢; exact h
  | .tup l, e, h => by cases e <;> simp only [D.beq] at h <;> first | (cases h; done) | exact congrArg _ (D.eq_of_beqs _ _ h)
  | .lst l, e, h => by cases e <;> simp only [D.beq] at h <;> first | (cases h; done) | exact congrArg _ (D.eq_of_beqs _ _ h)
  | .dct l, e, h => by cases e <;> simp only [D.beq] at h <;> first | (cases h; done) | exact congrArg _ (D.eq_of_beqp _ _ h)
  | .obj l, e, h => by cases e <;> simp only [D.beq] at h <;> first | (cases h; done) | exact congrArg _ (D.eq_of_beqs _ _ h)
  | .row, e, h => by cases e <;> simp [D.beq] at h ⊢
theorem D.eq_of_beqs : ∀ l m : List D, D.beqs l m = true → l = m
  | [], m, h => by cases m <;> simp [D.beqs] at h ⊢
  | x :: xs, m, h => by
    cases m with
    | nil => simp [D.beqs] at h
    | cons y ys =>
      simp only [D.beqs, Bool.and_eq_true] at h
      rw [D.eq_of_beq x y h.1, D.eq_of_beqs xs ys h.2]
theorem D.eq_of_beqp : ∀ l m : List (D × D), D.beqp l m = true → l = m
  | [], m, h => by cases m <;> simp [D.beqp] at h ⊢
  | (x, x') :: xs, m, h => by
    cases m with
    | nil => simp [D.beqp] at h
    | cons y ys =>
      obtain ⟨y, y'⟩ := y
      simp only [D.beqp, Bool.and_eq_true] at h
      rw [D.eq_of_beq x y h.1, D.eq_of_beq x' y' h.2.1, D.eq_of_beqp xs ys h.2.2]
end
instance : DecidableEq D := fun a b => if h : D.beq a b = true then .isTrue (D.eq_of_beq a b h) else .isFalse fun e => h (e ▸ D.beq_self a)

/-! ### Python's == -/
mutual
/-- == of data without dicts and objects (True == 1) -/
def D.eqv : D → D → Bool
  | .non, e => match e with | .non => true | _ => false
  | .bl a, e => match e with | .bl b => a == b | .int j => (if a then 1 else 0) == j | _ => false
  | .int i, e => match e with | .bl b => i == (if b then 1 else 0) | .int j => i == j | _ => false
  | .str x, e => match e with | .str y => x == y | _ => false
  | .lst l, e => match e with | .lst m => D.eqvs l m | _ => false
  | .tup l, e => match e with | .tup m => D.eqvs l m | _ => false
  | .dct _, _ => false
  | .obj _, _ => false
  | .row, _ => false
def D.eqvs : List D → List D → Bool
  | [], m => match m with | [] => true | _ => false
  | x :: xs, m => match m with | y :: ys => D.eqv x y && D.eqvs xs ys | [] => false
end
mutual
/-- data without dicts and objects, to a depth -/
def D.plain : Nat → D → Bool
  | _, .non => true
  | _, .bl _ => true
  | _, .int _ => true
  | _, .str x => PyData.canLay0 (.str x)
  | n, .lst l => match n with | 0 => false | n + 1 => D.plains n l
  | n, .tup l => match n with | 0 => false | n + 1 => D.plains n l
  | _, .dct _ => false
  | _, .obj _ => false
  | _, .row => false
def D.plains : Nat → List D → Bool
  | _, [] => true
  | n, x :: xs => D.plain n x && D.plains n xs
end
mutual
def D.pd : D → PyData
  | .non => .none
  | .bl b => .bool b
  | .int i => .int i
  | .str x => .str x
  | .lst l => .list (D.pds l)
  | .tup l => .tuple (D.pds l)
  | .dct _ => .none
  | .obj _ => .none
  | .row => .none
def D.pds : List D → List PyData
  | [] => []
  | x :: xs => D.pd x :: D.pds xs
end
mutual
theorem eqv_pd : ∀ (d e : D) (n m : Nat), d.plain n = true → e.plain m = true → PyData.eqv d.pd e.pd = d.eqv e
  | .non, e, n, m, h, h' => by cases e <;> simp_all [D.plain, D.pd, D.eqv, PyData.eqv]
  | .bl a, e, n, m, h, h' => by cases e <;> simp_all [D.plain, D.pd, D.eqv, PyData.eqv]
  | .int a, e, n, m, h, h' => by cases e <;> simp_all [D.plain, D.pd, D.eqv, PyData.eqv]
  | .str a, e, n, m, h, h' => by cases e <;> simp_all [D.plain, D.pd, D.eqv, PyData.eqv]
  | .lst l, e, n, m, h, h' => by
    cases e with
    | lst l' =>
      cases n with
      | zero => simp [D.plain] at h
      | succ n =>
        cases m with
        | zero => simp [D.plain] at h'
        | succ m =>
          simp only [D.plain] at h h'
          simp only [D.pd, D.eqv, PyData.eqv]
          exact eqv_pds l l' n m h h'
    | _ => simp_all [D.plain, D.pd, D.eqv, PyData.eqv]
  | .tup l, e, n, m, h, h' => by
    cases e with
    | tup l' =>
      cases n with
      | zero => simp [D.plain] at h
      | succ n =>
        cases m with
        | zero => simp [D.plain] at h'
        | succ m =>
          simp only [D.plain] at h h'
          simp only [D.pd, D.eqv, PyData.eqv]
          exact eqv_pds l l' n m h h'
    | _ => simp_all [D.plain, D.pd, D.eqv, PyData.eqv]
  | .dct _, _, _, _, h, _ => by simp [D.plain] at h
  | .obj _, _, _, _, h, _ => by simp [D.plain] at h
  | .row, _, _, _, h, _ => by simp [D.plain] at h
theorem eqv_pds : ∀ (l m : List D) (n k : Nat), D.plains n l = true → D.plains k m = true → PyData.eqvAll (D.pds l) (D.pds m) = D.eqvs l m
  | [], m, n, k, h, h' => by cases m <;> simp [D.pds, D.eqvs, PyData.eqvAll]
  | x :: xs, m, n, k, h, h' => by
    cases m with
    | nil => simp [D.pds, D.eqvs, PyData.eqvAll]
    | cons y ys =>
      simp only [D.plains, Bool.and_eq_true] at h h'
      simp only [D.pds, D.eqvs, PyData.eqvAll]
      rw [eqv_pd x y n k h.1 h'.1, eqv_pds xs ys n k h.2 h'.2]
end
mutual
theorem plain_lay : ∀ (d : D) (n : Nat), d.plain n = true → d.pd.canLay0 = true ∧ d.pd.depth ≤ n
  | .non, n, _ => ⟨rfl, Nat.zero_le _⟩
  | .bl _, n, _ => ⟨rfl, Nat.zero_le _⟩
  | .int _, n, _ => ⟨rfl, Nat.zero_le _⟩
  | .str x, n, h => ⟨h, Nat.zero_le _⟩
  | .lst l, n, h => by
    cases n with
    | zero => simp [D.plain] at h
    | succ n =>
      simp only [D.plain] at h
      obtain ⟨h1, h2⟩ := plains_lay l n h
      exact ⟨by simpa only [D.pd, PyData.canLay0] using h1, by simpa only [D.pd, PyData.depth] using Nat.succ_le_succ h2⟩
  | .tup l, n, h => by
    cases n with
    | zero => simp [D.plain] at h
    | succ n =>
      simp only [D.plain] at h
      obtain ⟨h1, h2⟩ := plains_lay l n h
      exact ⟨by simpa only [D.pd, PyData.canLay0] using h1, by simpa only [D.pd, PyData.depth] using Nat.succ_le_succ h2⟩
  | .dct _, _, h => by simp [D.plain] at h
  | .obj _, _, h => by simp [D.plain] at h
  | .row, _, h => by simp [D.plain] at h
theorem plains_lay : ∀ (l : List D) (n : Nat), D.plains n l = true → PyData.canLayAll0 (D.pds l) = true ∧ PyData.depthAll (D.pds l) ≤ n
  | [], n, _ => ⟨rfl, Nat.zero_le _⟩
  | x :: xs, n, h => by
    simp only [D.plains, Bool.and_eq_true] at h
    obtain ⟨a1, a2⟩ := plain_lay x n h.1
    obtain ⟨b1, b2⟩ := plains_lay xs n h.2
    refine ⟨by simp only [D.pds, PyData.canLayAll0, Bool.and_eq_true]; exact ⟨a1, b1⟩, ?_⟩
    simp only [D.pds, PyData.depthAll]
    exact Nat.max_le.mpr ⟨a2, b2⟩
end
theorem plain_shaped {d : D} (h : d.plain 60 = true) : SeqAt.shaped d.pd = true := by
  obtain ⟨h1, h2⟩ := plain_lay d 60 h
  unfold SeqAt.shaped
  rw [h1, decide_eq_true (by omega)]
  rfl
section
variable {w : World} {K : PySem.W.Frag} {ra : Addr} {F H : Hp}
mutual
theorem Rep.dp (fh : Same F H) : ∀ {v : V} {d : D} (n : Nat), Rep w K ra F v d → d.plain n = true → Dp K H v d.pd
  | _, _, n, .non, _ => .non
  | _, _, n, .bl b, _ => .bl b
  | _, _, n, .int i, _ => .int i
  | _, _, n, .str s, _ => .str s
  | _, _, n, .tup h r, p => by
    cases n with
    | zero => simp [D.plain] at p
    | succ n => exact .tup (Same.seqT fh h) (RepA.dp fh n r (by simpa only [D.plain] using p))
  | _, _, n, .lst h r, p => by
    cases n with
    | zero => simp [D.plain] at p
    | succ n => exact .lst (.of (fh _ _ h)) (RepA.dp fh n r (by simpa only [D.plain] using p))
  | _, _, n, .dct h r, p => by simp [D.plain] at p
  | _, _, n, .obj h hl r, p => by simp [D.plain] at p
  | _, _, n, .row, p => by simp [D.plain] at p
theorem RepA.dp (fh : Same F H) : ∀ {vs : List V} {ds : List D} (n : Nat), RepA w K ra F vs ds → D.plains n ds = true → DpAll K H vs (D.pds ds)
  | _, _, n, .nil, _ => .nil
  | _, _, n, .cons h r, p => by
    simp only [D.plains, Bool.and_eq_true] at p
    exact .cons (Rep.dp fh n h p.1) (RepA.dp fh n r p.2)
end
theorem Held.dp (fh : Same F H) {v : V} {d : D} (h : Held w K ra F H v d) (p : d.plain 60 = true) : Dp K H v d.pd := by
  cases h with
  | val r => exact r.dp fh 60 p
  | @own a o r _ _ =>
    cases o with
    | lst ds =>
      obtain ⟨vs, h1, h2⟩ := r
      exact .lst (.of h1) (h2.dp fh 59 p)
    | dct kvs => simp [OD.d, D.plain] at p
end

/-! ### operators of two values, read as containers -/
def op2M (ma mb : M Ref) (f : D → D → Option D) : M D := bindM ma fun x => bindM mb fun y => bindM (derefM x) fun d => bindM (derefM y) fun d' => liftO (f d d')
/-- what an operator's rule asks is told by f -/
def OpS (w : World) (K : PySem.W.Frag) (r : R2) (f : D → D → Option D) : Prop :=
  ∀ (ra : Addr) (HK : Kp) (F : Hp) (e : Env) (σ : St) (H : Hp) (x y : V) (d d' z : D) (Q : VK), Rel w K ra HK F e σ H → Held w K ra F H x d → Held w K ra F H y d' → f d d' = some z → okG TV w K ra HK F σ Q z e → r x y H Q
section
variable {X : Cx} {W : WX} {a b : Expr} {ma mb : M Ref} {f : D → D → Option D} {r : R2} {pos : Pos}
theorem op_read (hs : OpS X.w X.K r f) {σ : St} {H : Hp} {Q : VK} (h : tG TV X.w X.K W (op2M ma mb f) σ H Q) : tOp r (tG TR X.w X.K W ma) (tG TR X.w X.K W mb) σ H Q := by
  obtain ⟨ra, HK, F, e, R, h⟩ := h
  unfold op2M at h
  refine stepG R h fun F1 e1 x v H1 s1 R1 r1 q1 => ?_
  refine stepG R1 q1 fun F2 e2 y u H2 s2 R2 r2 q2 => ?_
  have r1' : TR X.w X.K ra HK σ e2 F2 H2 v x := by
    cases x with
    | val d => exact Rep.mono s2 r1
    | slot i => exact r1
  obtain ⟨d, hd, q3, _⟩ := R2.deref r1' q2
  obtain ⟨d', hd', q4, _⟩ := R2.deref r2 q3
  unfold liftO at q4
  cases ez : f d d' with
  | none =>
    rw [ez] at q4
    exact q4.elim
  | some z =>
    rw [ez] at q4
    exact hs ra HK F2 e2 σ H2 v u d d' z Q R2 hd hd' ez q4
theorem pm_bin {op : Operator} (ho : OpR X (binaryOp op) r) (hs : OpS X.w X.K r f) (ha : PMR X W a ma) (hb : PMR X W b mb) : PM X W (.BinOp a op b pos) (op2M ma mb f) := PE.weaken (pe_op ho ha hb) fun _ _ _ h => op_read hs h
theorem pm_cmp {op : CmpOp} (ho : OpR X (compareOp op) r) (hs : OpS X.w X.K r f) (ha : PMR X W a ma) (hb : PMR X W b mb) (hm : behindInMarks op b = false) : PM X W (.Compare a [op] [b] pos) (op2M ma mb f) := PE.weaken (pe_cmpR ho ha hb hm) fun _ _ _ h => op_read hs h
/-- a value that is True or False, as a test -/
def testM (m : M D) : M Bool := bindM m fun d => match d with
  | .bl b => pureM b
  | _ => errM
theorem test_read {m : M D} {σ : St} {H : Hp} {Q : Bool → Hp → Prop} (h : tG TB X.w X.K W (testM m) σ H Q) : tG TV X.w X.K W m σ H fun x H' => ∃ k, x = .bl k ∧ Q k H' := by
  obtain ⟨ra, HK, F, e, R, h⟩ := h
  unfold testM at h
  refine stepG R h fun F1 e1 d v H1 s1 R1 r1 q1 => ?_
  cases d with
  | bl b =>
    cases r1
    exact ⟨b, rfl, q1 b F1 H1 (Same.refl F1) R1 rfl⟩
  | _ => exact q1.elim
theorem pmt_cmp {op : CmpOp} (ho : OpR X (compareOp op) r) (hs : OpS X.w X.K r f) (ha : PMR X W a ma) (hb : PMR X W b mb) (hm : behindInMarks op b = false) : PMT X W (.Compare a [op] [b] pos) (testM (op2M ma mb f)) := by
  refine PT.weaken (pt_cmpR ho ha hb hm) fun σ H Q h => ?_
  have h2 := test_read h
  obtain ⟨ra, HK, F, e, R, h3⟩ := h2
  exact op_read hs ⟨ra, HK, F, e, R, h3⟩
theorem pmt_val {e : Expr} {m : M D} (h : PM X W e m) (he : ∀ whole, isTrue e X.env whole = (do let v ← whole; standAt e.pos; holding [v] (truthy v)) := by intro _; rfl) : PMT X W e (testM m) :=
  PT.weaken (pt_val h he) fun _ _ _ h => test_read h

/-! ### == and != -/
def eqF (d e : D) : Option D := if d.plain 60 && e.plain 60 then some (.bl (d.eqv e)) else none
def neF (d e : D) : Option D := if d.plain 60 && e.plain 60 then some (.bl (!d.eqv e)) else none
theorem ops_eq : OpS X.w X.K (rEqD X.K) eqF := by
  intro ra HK F e σ H x y d d' z Q R hx hy hz q
  unfold eqF at hz
  by_cases c : (d.plain 60 && d'.plain 60) = true
  · rw [if_pos c] at hz
    cases hz
    obtain ⟨c1, c2⟩ := Bool.and_eq_true_iff.mp c
    refine ⟨d.pd, d'.pd, hx.dp R.fh c1, hy.dp R.fh c2, plain_shaped c1, plain_shaped c2, ?_⟩
    rw [eqv_pd d d' 60 60 c1 c2]
    exact q _ F H (Same.refl F) R (.bl _)
  · rw [if_neg c] at hz
    cases hz
theorem ops_ne : OpS X.w X.K (rNeD X.K) neF := by
  intro ra HK F e σ H x y d d' z Q R hx hy hz q
  unfold neF at hz
  by_cases c : (d.plain 60 && d'.plain 60) = true
  · rw [if_pos c] at hz
    cases hz
    obtain ⟨c1, c2⟩ := Bool.and_eq_true_iff.mp c
    refine ⟨d.pd, d'.pd, hx.dp R.fh c1, hy.dp R.fh c2, plain_shaped c1, plain_shaped c2, ?_⟩
    rw [eqv_pd d d' 60 60 c1 c2]
    exact q _ F H (Same.refl F) R (.bl _)
  · rw [if_neg c] at hz
    cases hz

/-! ### whole numbers -/
/-- an operator on two numbers, where c holds -/
def intF (c : Int → Int → Bool) (g : Int → Int → Int) (d e : D) : Option D := match d, e with
  | .int i, .int j => if c i j then some (.int (g i j)) else none
  | _, _ => none
def cmpF (g : Int → Int → Bool) (d e : D) : Option D := match d, e with
  | .int i, .int j => some (.bl (g i j))
  | _, _ => none
theorem Held.int_ {w : World} {K : PySem.W.Frag} {ra : Addr} {F H : Hp} {v : V} {i : Int} (h : Held w K ra F H v (.int i)) : v = .int i := by
  generalize e : D.int i = d at h
  cases h with
  | val r =>
    subst e
    cases r
    rfl
  | @own a o _ _ _ => cases o <;> cases e
theorem Held.str_ {w : World} {K : PySem.W.Frag} {ra : Addr} {F H : Hp} {v : V} {i : Str} (h : Held w K ra F H v (.str i)) : v = .str i := by
  generalize e : D.str i = d at h
  cases h with
  | val r =>
    subst e
    cases r
    rfl
  | @own a o _ _ _ => cases o <;> cases e
theorem Held.bl_ {w : World} {K : PySem.W.Frag} {ra : Addr} {F H : Hp} {v : V} {i : Bool} (h : Held w K ra F H v (.bl i)) : v = .bl i := by
  generalize e : D.bl i = d at h
  cases h with
  | val r =>
    subst e
    cases r
    rfl
  | @own a o _ _ _ => cases o <;> cases e
theorem ops_int {C : Int → Int → Prop} {c : Int → Int → Bool} {g : Int → Int → Int} (hc : ∀ i j, c i j = true → C i j) : OpS X.w X.K (rI C fun i j => .int (g i j)) (intF c g) := by
  intro ra HK F e σ H x y d d' z Q R hx hy hz q
  cases d with
  | int i =>
    cases d' with
    | int j =>
      simp only [intF] at hz
      by_cases k : c i j = true
      · rw [if_pos k] at hz
        cases hz
        exact ⟨i, j, hx.int_, hy.int_, hc i j k, q _ F H (Same.refl F) R (.int _)⟩
      · rw [if_neg k] at hz
        cases hz
    | _ => cases hz
  | _ => cases hz
theorem ops_int0 {g : Int → Int → Int} : OpS X.w X.K (rI0 fun i j => .int (g i j)) (intF (fun _ _ => true) g) := by
  intro ra HK F e σ H x y d d' z Q R hx hy hz q
  cases d with
  | int i =>
    cases d' with
    | int j =>
      cases hz
      exact ⟨i, j, hx.int_, hy.int_, q _ F H (Same.refl F) R (.int _)⟩
    | _ => cases hz
  | _ => cases hz
theorem ops_cmp {g : Int → Int → Bool} : OpS X.w X.K (rI0 fun i j => .bl (g i j)) (cmpF g) := by
  intro ra HK F e σ H x y d d' z Q R hx hy hz q
  cases d with
  | int i =>
    cases d' with
    | int j =>
      cases hz
      exact ⟨i, j, hx.int_, hy.int_, q _ F H (Same.refl F) R (.bl _)⟩
    | _ => cases hz
  | _ => cases hz
theorem OpS.or {r r' : R2} {f f' g : D → D → Option D} (h : OpS X.w X.K r f) (h' : OpS X.w X.K r' f') (hg : ∀ d e z, g d e = some z → f d e = some z ∨ f' d e = some z) : OpS X.w X.K (fun x y H Q => r x y H Q ∨ r' x y H Q) g := by
  intro ra HK F e σ H x y d d' z Q R hx hy hz q
  rcases hg d d' z hz with k | k
  · exact .inl (h ra HK F e σ H x y d d' z Q R hx hy k q)
  · exact .inr (h' ra HK F e σ H x y d d' z Q R hx hy k q)
end
end Mi

set_option Elab.async false
set_option linter.all false
set_option maxRecDepth 100000
set_option maxHeartbeats 4000000
/-! Mi, part D: tuple * int (all cases), the operators. -/
namespace L2
open PySem PySem.Spec PyProof.Rows
theorem tuple_mulS (l : Addr) (items : Array Value) (n : Nat) (dd : Option Addr) (sl : Array (Option Value)) (x : Int) (u : Tok) (c0 : (decide (x < -(2 ^ 63)) || decide (x ≥ 2 ^ 63)) = false) (c1 : (items.isEmpty || x == 1) = true) :
    Meets (Builtin.«tuple.__mul__» ⟨[.ref l, .int x u], []⟩) (fun _ R s => s.heap.get? l = some { cls := .type "tuple", dict := dd, data := .seq items n, slots := sl } ∧
      R (.ok (.ret (Value.ref l))) s) :=
  .of_wp fun prog w A R s h => by
    obtain ⟨hp, g, d, tk, os⟩ := s
    obtain ⟨hl, h⟩ := h
    have f1 := AutoSeq1.idx_int
    wp_walk using wpAny_loadPart' hl
    repeat (first
      | (refine wpAny_ite_false (decide_eq_false (by rw [c0]; exact Bool.false_ne_true)) ?_; wp_walk using wpAny_loadPart' hl)
      | (refine wpAny_ite_true (decide_eq_true c1) ?_; wp_walk using wpAny_loadPart' hl)
      | (refine wpAny_ite_true (decide_eq_true (by rfl)) ?_; wp_walk using wpAny_loadPart' hl))
    exact ⟨_, rfl, h⟩
theorem tuple_mul0 (l : Addr) (items : Array Value) (n : Nat) (dd : Option Addr) (sl : Array (Option Value)) (x : Int) (u : Tok) (c0 : (decide (x < -(2 ^ 63)) || decide (x ≥ 2 ^ 63)) = false) (c1 : (items.isEmpty || x == 1) = false) (c2 : (decide (x ≤ 0) || items.isEmpty) = true) :
    Meets (Builtin.«tuple.__mul__» ⟨[.ref l, .int x u], []⟩) (fun _ R s => s.heap.get? l = some { cls := .type "tuple", dict := dd, data := .seq items n, slots := sl } ∧
      R (.ok (.ret (Value.ref s.heap.objs.size))) { s with heap := s.heap.push { cls := Value.type "tuple", data := Data.seq #[] }, toks := s.toks }) :=
  .of_wp fun prog w A R s h => by
    obtain ⟨hp, g, d, tk, os⟩ := s
    obtain ⟨hl, h⟩ := h
    have f1 := AutoSeq1.idx_int
    wp_walk using wpAny_loadPart' hl
    repeat (first
      | (refine wpAny_ite_false (decide_eq_false (by rw [c0]; exact Bool.false_ne_true)) ?_; wp_walk using wpAny_loadPart' hl)
      | (refine wpAny_ite_false (decide_eq_false (by rw [c1]; exact Bool.false_ne_true)) ?_; wp_walk using wpAny_loadPart' hl)
      | (refine wpAny_ite_true (decide_eq_true c2) ?_; wp_walk using wpAny_loadPart' hl)
      | (refine wpAny_ite_false (decide_eq_false (Nat.not_lt.mpr (Nat.zero_le _))) ?_; wp_walk using wpAny_loadPart' hl))
    exact ⟨_, rfl, h⟩
/-- t * k, any t, any k in bounds -/
def rRepA (K : PySem.W.Frag) : R2 := fun x y H Q => ∃ l k xs, x = .ref l ∧ y = .int k ∧ SqT K H l xs ∧ -(2 ^ 63) ≤ k ∧ k ≤ 1000 ∧ xs.length ≤ 1000 ∧
  (xs = [] ∨ k = 1 → Q (.ref l) H) ∧ (xs ≠ [] ∧ k ≠ 1 → ∀ p, H p = none → Q (.ref p) (upd H p (.tup (List.replicate k.toNat xs).flatten)))
section
variable {X : Cx}
theorem op_repA : OpR X (binaryOp .Mult) (rRepA X.K) := by
  intro pins s σ H x y v u Q I rx ry h
  obtain ⟨l, k, xs, rfl, rfl, hT, h1, h2, hz, q1, q2⟩ := h
  by_cases c : xs = [] ∨ k = 1
  · cases rx
    obtain ⟨t, rfl⟩ := ry
    obtain ⟨its, r, ⟨⟨cls, dd, data, sl⟩, ho, hc, n, hd⟩, hs⟩ := I.tuple hT
    simp only at hc hd
    subst hc hd
    have c0 : (decide (k < -(2 ^ 63)) || decide (k ≥ 2 ^ 63)) = false := by
      rw [decide_eq_false (by omega), decide_eq_false (by omega)] <;> rfl
    have c1 : (its.toArray.isEmpty || k == 1) = true := by
      rcases c with c | c
      · subst c
        cases r
        rfl
      · subst c
        simp
    refine wpAny_binaryOp_repeat_ref (T := "tuple") (U := "int") (by decide) ⟨_, ho, rfl⟩ (fun s' => typeIs_int s' k t) noFill_tuple_mul F.fills_int_mul F.slot_int_rmul repeat_tuple F.slot_int_index.lookup
      (call_meets F.slot_int_rmul (typeIs_int s k t) F.entry_int_rmul (F.args_int_rmul_2 _ _) (int_rmul_tuple k t l its.toArray n dd sl)
        ⟨ho, rfl, ⟨_, ho, rfl⟩, call_meets F.slot_tuple_mul ⟨_, ho, rfl⟩ F.entry_tuple_mul (F.args_tuple_mul_2 _ _) (tuple_mulS l its.toArray n dd sl k t c0 c1) ⟨ho, ?_⟩⟩)
    exact ⟨.ref l, H, I, rfl, q1 c⟩
  · have c' : xs ≠ [] ∧ k ≠ 1 := ⟨fun z => c (.inl z), fun z => c (.inr z)⟩
    by_cases k0 : 2 ≤ k
    · exact op_repT pins s σ H _ _ v u Q I rx ry ⟨l, k, xs, rfl, rfl, hT, c'.1, k0, h2, hz, q2 c'⟩
    · cases rx
      obtain ⟨t, rfl⟩ := ry
      obtain ⟨its, r, ⟨⟨cls, dd, data, sl⟩, ho, hc, n, hd⟩, hs⟩ := I.tuple hT
      simp only at hc hd
      subst hc hd
      have c0 : (decide (k < -(2 ^ 63)) || decide (k ≥ 2 ^ 63)) = false := by
        rw [decide_eq_false (by omega), decide_eq_false (by omega)] <;> rfl
      have hk : k ≤ 0 := by
        have := c'.2
        omega
      have hi : its.toArray.isEmpty = false := by
        cases r with
        | nil => exact absurd rfl c'.1
        | cons _ _ => rfl
      have c1 : (its.toArray.isEmpty || k == 1) = false := by
        rw [hi, Bool.false_or]
        exact beq_eq_false_iff_ne.mpr (by omega)
      have c2 : (decide (k ≤ 0) || its.toArray.isEmpty) = true := by
        rw [decide_eq_true hk]
        rfl
      refine wpAny_binaryOp_repeat_ref (T := "tuple") (U := "int") (by decide) ⟨_, ho, rfl⟩ (fun s' => typeIs_int s' k t) noFill_tuple_mul F.fills_int_mul F.slot_int_rmul repeat_tuple F.slot_int_index.lookup
        (call_meets F.slot_int_rmul (typeIs_int s k t) F.entry_int_rmul (F.args_int_rmul_2 _ _) (int_rmul_tuple k t l its.toArray n dd sl)
          ⟨ho, rfl, ⟨_, ho, rfl⟩, call_meets F.slot_tuple_mul ⟨_, ho, rfl⟩ F.entry_tuple_mul (F.args_tuple_mul_2 _ _) (tuple_mul0 l its.toArray n dd sl k t c0 c1 c2) ⟨ho, ?_⟩⟩)
      have e0 : (List.replicate k.toNat xs).flatten = [] := by
        have : k.toNat = 0 := by omega
        rw [this]
        rfl
      refine ⟨.ref s.heap.objs.size, _, I.laid (t' := s.toks) (o := .tup (List.replicate k.toNat xs).flatten) (fun b ob q => Heap.get?_push_of_some _ q) (Nat.le_refl _) ?_, rfl, q2 c' _ (I.hok.fresh (Nat.le_refl _))⟩
      rw [e0]
      exact ⟨by decide, [], .nil, IsTup.new _ _⟩
end
end L2
namespace Mi
open PySem PySem.Spec PyProof.Rows L2
section
variable {w : World} {K : PySem.W.Frag} {ra : Addr} {F H : Hp}
theorem Held.rep_tup {v : V} {ds : List D} (h : Held w K ra F H v (.tup ds)) : Rep w K ra F v (.tup ds) := by
  generalize e : D.tup ds = d at h ⊢
  cases h with
  | val r => exact r
  | @own a o _ _ _ => cases o <;> cases e
theorem RepA.rep {vs : List V} {ds : List D} (h : RepA w K ra F vs ds) : ∀ n : Nat, RepA w K ra F (List.replicate n vs).flatten (List.replicate n ds).flatten
  | 0 => .nil
  | n + 1 => by
    rw [List.replicate_succ, List.replicate_succ, List.flatten_cons, List.flatten_cons]
    exact h.append (RepA.rep h n)
end
/-! ### +, -, *, //, %, ** -/
def addF (d e : D) : Option D := match d, e with
  | .int i, .int j => some (.int (i + j))
  | .str x, .str y => if x.length + y.length ≤ 1000000 then some (.str (x ++ y)) else none
  | .tup xs, .tup ys => if xs.length + ys.length ≤ 1000000 then some (.tup (xs ++ ys)) else none
  | .lst xs, .lst ys => if xs.length + ys.length ≤ 1000000 then some (.lst (xs ++ ys)) else none
  | _, _ => none
def addStr (d e : D) : Option D := match d, e with
  | .str x, .str y => if x.length + y.length ≤ 1000000 then some (.str (x ++ y)) else none
  | _, _ => none
def addTup (d e : D) : Option D := match d, e with
  | .tup xs, .tup ys => if xs.length + ys.length ≤ 1000000 then some (.tup (xs ++ ys)) else none
  | _, _ => none
def addLst (d e : D) : Option D := match d, e with
  | .lst xs, .lst ys => if xs.length + ys.length ≤ 1000000 then some (.lst (xs ++ ys)) else none
  | _, _ => none
theorem le_line {n : Nat} (h : n ≤ 1000000) : n ≤ sizeLine := Nat.le_trans h (by decide)
section
variable {X : Cx} {W : WX}
theorem ops_addStr : OpS X.w X.K (fun x y H Q => ∃ i j, x = .str i ∧ y = .str j ∧ i.length + j.length ≤ sizeLine ∧ Q (.str (i ++ j)) H) addStr := by
  intro ra HK F e σ H x y d d' z Q R hx hy hz q
  cases d with
  | str i =>
    cases d' with
    | str j =>
      simp only [addStr] at hz
      by_cases k : i.length + j.length ≤ 1000000
      · rw [if_pos k] at hz
        cases hz
        exact ⟨i, j, hx.str_, hy.str_, le_line k, q _ F H (Same.refl F) R (.str _)⟩
      · rw [if_neg k] at hz
        cases hz
    | _ => cases hz
  | _ => cases hz
theorem ops_addTup : OpS X.w X.K (rCatA X.K) addTup := by
  intro ra HK F e σ H x y d d' z Q R hx hy hz q
  cases d with
  | tup i =>
    cases d' with
    | tup j =>
      simp only [addTup] at hz
      by_cases k : i.length + j.length ≤ 1000000
      · rw [if_pos k] at hz
        cases hz
        obtain ⟨a, vs, rfl, h1, h2⟩ := hx.tup R.fh
        obtain ⟨b, us, rfl, h3, h4⟩ := hy.tup R.fh
        refine ⟨a, b, vs, us, rfl, rfl, h1, h3, by rw [h2.length, h4.length]; exact le_line k, fun z => ?_, fun _ z => ?_, fun _ _ p hp => ?_⟩
        · subst z
          cases h2
          exact q _ F H (Same.refl F) R hy.rep_tup
        · subst z
          cases h4
          rw [List.append_nil] at q
          exact q _ F H (Same.refl F) R hx.rep_tup
        · obtain ⟨R2, s2⟩ := R.alloc hp (.tup (vs ++ us))
          exact q _ _ _ s2 R2 (.tup (.of upd_same) (RepA.mono s2 (h2.append h4)))
      · rw [if_neg k] at hz
        cases hz
    | _ => cases hz
  | _ => cases hz
theorem ops_addLst : OpS X.w X.K rCat addLst := by
  intro ra HK F e σ H x y d d' z Q R hx hy hz q
  cases d with
  | lst i =>
    cases d' with
    | lst j =>
      simp only [addLst] at hz
      by_cases k : i.length + j.length ≤ 1000000
      · rw [if_pos k] at hz
        cases hz
        obtain ⟨a, vs, rfl, h1, h2⟩ := hx.lst R.fh
        obtain ⟨b, us, rfl, h3, h4⟩ := hy.lst R.fh
        refine ⟨a, b, vs, us, rfl, rfl, h1, h3, by rw [h2.length, h4.length]; exact le_line k, fun p hp => ?_⟩
        obtain ⟨R2, s2⟩ := R.alloc hp (.lst (vs ++ us))
        exact q _ _ _ s2 R2 (.lst upd_same (RepA.mono s2 (h2.append h4)))
      · rw [if_neg k] at hz
        cases hz
    | _ => cases hz
  | _ => cases hz
theorem ops_add : OpS X.w X.K (fun x y H Q => rI0 (fun i j => V.int (i + j)) x y H Q ∨ (∃ i j, x = .str i ∧ y = .str j ∧ i.length + j.length ≤ sizeLine ∧ Q (.str (i ++ j)) H) ∨ rCatA X.K x y H Q ∨ rCat x y H Q) addF := by
  intro ra HK F e σ H x y d d' z Q R hx hy hz q
  cases d with
  | int i =>
    cases d' with
    | int j => exact .inl (ops_int0 (X := X) (g := (· + ·)) ra HK F e σ H x y (.int i) (.int j) z Q R hx hy hz q)
    | _ => cases hz
  | str i =>
    cases d' with
    | str j => exact .inr (.inl (ops_addStr ra HK F e σ H x y (.str i) (.str j) z Q R hx hy hz q))
    | _ => cases hz
  | tup i =>
    cases d' with
    | tup j => exact .inr (.inr (.inl (ops_addTup ra HK F e σ H x y (.tup i) (.tup j) z Q R hx hy hz q)))
    | _ => cases hz
  | lst i =>
    cases d' with
    | lst j => exact .inr (.inr (.inr (ops_addLst (X := X) ra HK F e σ H x y (.lst i) (.lst j) z Q R hx hy hz q)))
    | _ => cases hz
  | _ => cases hz
theorem op_add4 : OpR X (binaryOp .Add) (fun x y H Q => rI0 (fun i j => V.int (i + j)) x y H Q ∨ (∃ i j, x = .str i ∧ y = .str j ∧ i.length + j.length ≤ sizeLine ∧ Q (.str (i ++ j)) H) ∨ rCatA X.K x y H Q ∨ rCat x y H Q) :=
  OpR.or op_add (OpR.or op_add_str (OpR.or op_catA op_cat))
variable {a b : Expr} {ma mb : M Ref} {pos : Pos}
theorem pm_add (ha : PMR X W a ma) (hb : PMR X W b mb) : PM X W (.BinOp a .Add b pos) (op2M ma mb addF) := pm_bin op_add4 ops_add ha hb
def subF : D → D → Option D := intF (fun _ _ => true) (· - ·)
theorem pm_sub (ha : PMR X W a ma) (hb : PMR X W b mb) : PM X W (.BinOp a .Sub b pos) (op2M ma mb subF) := pm_bin op_sub (ops_int0 (g := (· - ·))) ha hb
def mulC (i j : Int) : Bool := (decide (-(2 ^ 64) < i) && decide (i < 2 ^ 64)) || ((decide (-(2 ^ 64) < j) && decide (j < 2 ^ 64)) || decide (i.natAbs.log2 + j.natAbs.log2 < 1000000))
theorem mulC_ok {i j : Int} (h : mulC i j = true) : IntMulOk i j := by
  unfold mulC at h
  simp only [Bool.or_eq_true, Bool.and_eq_true, decide_eq_true_eq] at h
  rcases h with h | h | h
  · exact CMul.ok (.inl h)
  · exact CMul.ok (.inr h)
  · exact CMulW.ok h
theorem op_mulA : OpR X (binaryOp .Mult) (rI IntMulOk fun i j => .int (i * j)) := opI fun _ _ _ _ _ _ _ hc q => mul_int q hc
/-- * -/
def mulF (d e : D) : Option D := match d, e with
  | .int i, .int j => if mulC i j then some (.int (i * j)) else none
  | .tup xs, .int k => if -(2 ^ 63) ≤ k ∧ k ≤ 1000 ∧ xs.length ≤ 1000 then some (.tup (List.replicate k.toNat xs).flatten) else none
  | .lst xs, .int k => if -(2 ^ 63) ≤ k ∧ k ≤ 1000 ∧ xs.length ≤ 1000 then some (.lst (List.replicate k.toNat xs).flatten) else none
  | .str x, .int k => if 0 ≤ k ∧ k ≤ 1000 ∧ x.length ≤ 1000 ∧ x.length ≠ 0 then some (.str ⟨(List.replicate k.toNat x.cps).foldl (· ++ ·) #[]⟩) else none
  | _, _ => none
theorem op_repS : OpR X (binaryOp .Mult) (fun x y H Q => ∃ z k, x = .str z ∧ y = .int k ∧ 0 ≤ k ∧ k ≤ 1000 ∧ z.length ≤ 1000 ∧ z.length ≠ 0 ∧ Q (.str ⟨(List.replicate k.toNat z.cps).foldl (· ++ ·) #[]⟩) H) := by
  intro pins s σ H x y v u Q I rx ry h
  obtain ⟨z, k, rfl, rfl, h1, h2, h3, h4, q⟩ := h
  obtain ⟨t, rfl⟩ := rx
  obtain ⟨t', rfl⟩ := ry
  refine PySem.P.mul_str (by rw [decide_eq_false (by omega), decide_eq_false (by omega)] <;> rfl) (fun a _ => ?_) (fun a _ => ?_) ?_
  · have hk : 1 ≤ k := by omega
    have : (z.length : Int) ≤ 1000 := by omega
    have e : (1000 : Int) ≤ (2 ^ 63 - 1) / k := by
      rw [Int.le_ediv_iff_mul_le (by omega)]
      omega
    omega
  · unfold Builtin.Str.tooLong
    have : z.length * k.toNat ≤ 1000 * 1000 := Nat.mul_le_mul h3 (by omega)
    first
      | exact decide_eq_false (by rw [sizeLine_eq]; omega)
      | (simp [sizeLine_eq]; omega)
  · by_cases k0 : k < 1
    · rw [if_pos k0]
      have e0 : k.toNat = 0 := by omega
      rw [e0] at q
      exact ⟨by decide, ⟨.str Str.empty, H, I.tok _, ⟨_, rfl⟩, q⟩⟩
    · rw [if_neg k0]
      by_cases k1 : k = 1
      · subst k1
        rw [if_pos (by simp)]
        have e1 : (⟨(List.replicate (1 : Int).toNat z.cps).foldl (· ++ ·) #[]⟩ : Str) = z := by simp
        rw [e1] at q
        exact ⟨.str z, H, I.tok _, ⟨_, rfl⟩, q⟩
      · rw [if_neg (by simp [k1, h4])]
        refine ⟨?_, ⟨.str ⟨(List.replicate k.toNat z.cps).foldl (· ++ ·) #[]⟩, H, I.tok _, ⟨_, rfl⟩, q⟩⟩
        have e2 : z.cps = z.cps.toList.toArray := by simp
        have l2 : z.cps.toList.length = z.length := by simp [Str.length]
        have fl : ((List.replicate k.toNat z.cps).foldl (· ++ ·) #[]).size = k.toNat * z.length := by
          have g : ∀ (m : Nat) (acc : Array Nat), ((List.replicate m z.cps).foldl (· ++ ·) acc).size = acc.size + m * z.length := by
            intro m
            induction m with
            | zero => intro acc; simp
            | succ m ih =>
              intro acc
              rw [List.replicate_succ, List.foldl_cons, ih, Array.size_append, Nat.succ_mul]
              have : z.cps.size = z.length := rfl
              omega
          rw [g]
          simp
        have : k.toNat * z.length ≤ 1000 * 1000 := Nat.mul_le_mul (by omega) h3
        first
          | (show ((List.replicate k.toNat z.cps).foldl (· ++ ·) #[]).size ≤ sizeLine; rw [fl]; exact le_line (by omega))
          | (show ¬ _; rw [fl]; omega)
theorem ops_mulT : OpS X.w X.K (rRepA X.K) (fun d e => match d, e with
  | .tup xs, .int k => if -(2 ^ 63) ≤ k ∧ k ≤ 1000 ∧ xs.length ≤ 1000 then some (.tup (List.replicate k.toNat xs).flatten) else none
  | _, _ => none) := by
  intro ra HK F e σ H x y d d' z Q R hx hy hz q
  cases d with
  | tup xs =>
    cases d' with
    | int k =>
      simp only at hz
      by_cases c : -(2 ^ 63) ≤ k ∧ k ≤ 1000 ∧ xs.length ≤ 1000
      · rw [if_pos c] at hz
        cases hz
        obtain ⟨a, vs, rfl, h1, h2⟩ := hx.tup R.fh
        refine ⟨a, k, vs, rfl, hy.int_, h1, c.1, c.2.1, by rw [h2.length]; exact c.2.2, fun z => ?_, fun _ p hp => ?_⟩
        · rcases z with z | z
          · subst z
            cases h2
            have : (List.replicate k.toNat ([] : List D)).flatten = [] := by simp
            rw [this] at q
            exact q _ F H (Same.refl F) R hx.rep_tup
          · subst z
            have : (List.replicate (1 : Int).toNat xs).flatten = xs := by simp
            rw [this] at q
            exact q _ F H (Same.refl F) R hx.rep_tup
        · obtain ⟨R2, s2⟩ := R.alloc hp (.tup (List.replicate k.toNat vs).flatten)
          exact q _ _ _ s2 R2 (.tup (.of upd_same) (RepA.mono s2 (h2.rep _)))
      · rw [if_neg c] at hz
        cases hz
    | _ => cases hz
  | _ => cases hz
theorem ops_mul : OpS X.w X.K (fun x y H Q => rI IntMulOk (fun i j => V.int (i * j)) x y H Q ∨ rRepA X.K x y H Q ∨ rRep x y H Q ∨ (∃ z k, x = .str z ∧ y = .int k ∧ 0 ≤ k ∧ k ≤ 1000 ∧ z.length ≤ 1000 ∧ z.length ≠ 0 ∧ Q (.str ⟨(List.replicate k.toNat z.cps).foldl (· ++ ·) #[]⟩) H)) mulF := by
  intro ra HK F e σ H x y d d' z Q R hx hy hz q
  cases d with
  | int i =>
    cases d' with
    | int j => exact .inl (ops_int (X := X) (C := IntMulOk) (c := mulC) (g := (· * ·)) (fun i j h => mulC_ok h) ra HK F e σ H x y (.int i) (.int j) z Q R hx hy hz q)
    | _ => cases hz
  | tup i =>
    cases d' with
    | int j => exact .inr (.inl (ops_mulT ra HK F e σ H x y (.tup i) (.int j) z Q R hx hy hz q))
    | _ => cases hz
  | lst i =>
    cases d' with
    | int k =>
      simp only [mulF] at hz
      by_cases c : -(2 ^ 63) ≤ k ∧ k ≤ 1000 ∧ i.length ≤ 1000
      · rw [if_pos c] at hz
        cases hz
        obtain ⟨a, vs, rfl, h1, h2⟩ := hx.lst R.fh
        refine .inr (.inr (.inl ⟨a, k, vs, rfl, hy.int_, h1, c.1, by omega, ?_, fun p hp => ?_⟩))
        · rw [h2.length]
          have : i.length * k.toNat ≤ 1000 * 1000 := Nat.mul_le_mul c.2.2 (by omega)
          exact le_line (by omega)
        · obtain ⟨R2, s2⟩ := R.alloc hp (.lst (List.replicate k.toNat vs).flatten)
          exact q _ _ _ s2 R2 (.lst upd_same (RepA.mono s2 (h2.rep _)))
      · rw [if_neg c] at hz
        cases hz
    | _ => cases hz
  | str x =>
    cases d' with
    | int k =>
      simp only [mulF] at hz
      by_cases c : 0 ≤ k ∧ k ≤ 1000 ∧ x.length ≤ 1000 ∧ x.length ≠ 0
      · rw [if_pos c] at hz
        cases hz
        exact .inr (.inr (.inr ⟨x, k, hx.str_, hy.int_, c.1, c.2.1, c.2.2.1, c.2.2.2, q _ F H (Same.refl F) R (.str _)⟩))
      · rw [if_neg c] at hz
        cases hz
    | _ => cases hz
  | _ => cases hz
theorem op_mul4 : OpR X (binaryOp .Mult) (fun x y H Q => rI IntMulOk (fun i j => V.int (i * j)) x y H Q ∨ rRepA X.K x y H Q ∨ rRep x y H Q ∨ (∃ z k, x = .str z ∧ y = .int k ∧ 0 ≤ k ∧ k ≤ 1000 ∧ z.length ≤ 1000 ∧ z.length ≠ 0 ∧ Q (.str ⟨(List.replicate k.toNat z.cps).foldl (· ++ ·) #[]⟩) H)) :=
  OpR.or op_mulA (OpR.or op_repA (OpR.or op_rep op_repS))
theorem pm_mul (ha : PMR X W a ma) (hb : PMR X W b mb) : PM X W (.BinOp a .Mult b pos) (op2M ma mb mulF) := pm_bin op_mul4 ops_mul ha hb
def fdivC (_ j : Int) : Bool := decide (j ≠ 0) && decide (j.natAbs.log2 < 9000)
def fdivF : D → D → Option D := intF fdivC Int.fdiv
theorem op_fdivA : OpR X (binaryOp .FloorDiv) (rI (fun _ j => j ≠ 0 ∧ j.natAbs.log2 < 9000) fun i j => .int (i.fdiv j)) := opI fun _ _ _ _ _ _ _ hc q => floordiv_int hc.1 q (.inl (PyProof.noPylong_of_log2 hc.2))
theorem pm_fdiv (ha : PMR X W a ma) (hb : PMR X W b mb) : PM X W (.BinOp a .FloorDiv b pos) (op2M ma mb fdivF) := pm_bin op_fdivA (ops_int fun i j h => by
  unfold fdivC at h
  simp only [Bool.and_eq_true, decide_eq_true_eq] at h
  exact h) ha hb
def modF : D → D → Option D := intF (fun _ j => decide (j ≠ 0)) Int.fmod
theorem pm_mod (ha : PMR X W a ma) (hb : PMR X W b mb) : PM X W (.BinOp a .Mod b pos) (op2M ma mb modF) := pm_bin op_modN (ops_int fun i j h => of_decide_eq_true h) ha hb
def powF : D → D → Option D := intF (fun i j => decide (0 ≤ j) && (decide (j ≤ 1000000) && decide (i.natAbs < 2 ^ 64))) (fun i j => i ^ j.toNat)
theorem pm_pow (ha : PMR X W a ma) (hb : PMR X W b mb) : PM X W (.BinOp a .Pow b pos) (op2M ma mb powF) := pm_bin op_pow (ops_int fun i j h => by
  simp only [Bool.and_eq_true, decide_eq_true_eq] at h
  exact ⟨h.1, h.2.1, h.2.2⟩) ha hb
/-- -n -/
def negM (m : M D) : M D := bindM m fun d => match d with
  | .int i => pureM (.int (-i))
  | _ => errM
theorem pm_neg {m : M D} (ha : PM X W a m) : PM X W (.UnaryOp .USub a pos) (negM m) := by
  refine PE.weaken (pe_un un_neg ha) ?_
  rintro σ H Q ⟨ra, HK, F, e, R, h⟩
  unfold negM at h
  refine stepG R h fun F1 e1 d v H1 s1 R1 r1 q1 => ?_
  cases d with
  | int i =>
    cases r1
    exact ⟨i, rfl, q1 _ F1 H1 (Same.refl F1) R1 (.int _)⟩
  | _ => exact q1.elim
end
end Mi

set_option Elab.async false
set_option linter.all false
set_option maxRecDepth 100000
set_option maxHeartbeats 4000000
/-! Mi, part E: order, in, is, and, or, not, if. -/
namespace Mi
open PySem PySem.Spec PyProof.Rows L2

/-! ### the order of tuples -/
inductive Ord3 where
  | lt | le | gt
  deriving DecidableEq
def Ord3.op : Ord3 → CmpOp
  | .lt => .Lt
  | .le => .LtE
  | .gt => .Gt
def Ord3.int : Ord3 → Int → Int → Bool
  | .lt, i, j => decide (i < j)
  | .le, i, j => decide (i ≤ j)
  | .gt, i, j => decide (j < i)
def Ord3.len : Ord3 → Nat → Nat → Bool
  | .lt, i, j => decide (i < j)
  | .le, i, j => decide (i ≤ j)
  | .gt, i, j => decide (j < i)
mutual
/-- x < y and its like: numbers, tuples of comparable things (all pairs are looked at) -/
def D.cmp (o : Ord3) : Nat → D → D → Option Bool
  | _, .int i, .int j => some (o.int i j)
  | 0, _, _ => none
  | n + 1, .tup l, .tup m => D.cmps o n l m (o.len l.length m.length)
  | _, _, _ => none
def D.cmps (o : Ord3) : Nat → List D → List D → Bool → Option Bool
  | n, x :: xs, y :: ys, z => match (if x.plain 20 && y.plain 20 then some (x.eqv y) else none), D.cmps o n xs ys z with
    | some true, some c => some c
    | some false, some _ => D.cmp o n x y
    | _, _ => none
  | _, [], _, z => some z
  | _, _ :: _, [], z => some z
end
theorem cmps_all {o : Ord3} {n : Nat} : ∀ (xs ys : List D) (z b : Bool), D.cmps o n xs ys z = some b → ∀ j, j < xs.length → j < ys.length →
    (xs.getD j .non).plain 20 = true ∧ (ys.getD j .non).plain 20 = true ∧ ((xs.getD j .non).eqv (ys.getD j .non) = false → ∃ c, D.cmp o n (xs.getD j .non) (ys.getD j .non) = some c)
  | [], _, _, _, _, j, h1, _ => by simp at h1
  | _ :: _, [], _, _, _, j, _, h2 => by simp at h2
  | x :: xs, y :: ys, z, b, h, j, h1, h2 => by
    simp only [D.cmps] at h
    by_cases p : (x.plain 20 && y.plain 20) = true
    · rw [if_pos p] at h
      obtain ⟨p1, p2⟩ := Bool.and_eq_true_iff.mp p
      cases ht : D.cmps o n xs ys z with
      | none =>
        rw [ht] at h
        cases hx : x.eqv y <;> rw [hx] at h <;> cases h
      | some c =>
        cases j with
        | zero =>
          refine ⟨p1, p2, fun e => ?_⟩
          have e' : x.eqv y = false := e
          rw [ht, e'] at h
          exact ⟨b, h⟩
        | succ j =>
          have := cmps_all xs ys z c ht j (by simpa using h1) (by simpa using h2)
          simpa using this
    · rw [if_neg p] at h
      cases h
theorem cmps_lex {o : Ord3} {n : Nat} {e r : Nat → Bool} : ∀ (xs ys : List D) (z b : Bool) (i : Nat), D.cmps o n xs ys z = some b →
    (∀ j, j < xs.length → j < ys.length → e (i + j) = (xs.getD j .non).eqv (ys.getD j .non) ∧ r (i + j) = (D.cmp o n (xs.getD j .non) (ys.getD j .non)).getD false) →
    Ob.lexAt e r z i (min xs.length ys.length) = b
  | [], _, _, _, _, h, _ => by
    simp only [D.cmps] at h
    cases h
    simp [Ob.lexAt]
  | _ :: _, [], _, _, _, h, _ => by
    simp only [D.cmps] at h
    cases h
    simp [Ob.lexAt]
  | x :: xs, y :: ys, z, b, i, h, k => by
    have k0 := k 0 (by simp) (by simp)
    simp only [Nat.add_zero, List.getD_cons_zero] at k0
    have em : min (x :: xs).length (y :: ys).length = min xs.length ys.length + 1 := by simp [Nat.succ_min_succ]
    rw [em, Ob.lexAt_succ, k0.1, k0.2]
    simp only [D.cmps] at h
    by_cases p : (x.plain 20 && y.plain 20) = true
    · rw [if_pos p] at h
      cases ht : D.cmps o n xs ys z with
      | none =>
        rw [ht] at h
        cases hx : x.eqv y <;> rw [hx] at h <;> cases h
      | some c =>
        cases hx : x.eqv y with
        | true =>
          rw [if_pos rfl]
          rw [ht, hx] at h
          cases h
          refine cmps_lex xs ys z b (i + 1) ht fun j h1 h2 => ?_
          have := k (j + 1) (by simpa using h1) (by simpa using h2)
          simp only [List.getD_cons_succ] at this
          rw [show i + 1 + j = i + (j + 1) by omega]
          exact this
        | false =>
          rw [if_neg Bool.false_ne_true]
          rw [ht, hx] at h
          have h' : D.cmp o n x y = some b := h
          rw [h']
          rfl
    · rw [if_neg p] at h
      cases h
theorem readsAll_at {h : Heap} : ∀ {us : List Value} {l : List D} {as : List Addr}, ReadsAll h us (D.pds l) as → us.length = l.length ∧ ∀ j (hj : j < us.length), ∃ bs, Reads h us[j] (l.getD j .non).pd bs
  | [], [], _, _ => ⟨rfl, fun j hj => by simp at hj⟩
  | [], _ :: _, _, r => by
    simp only [D.pds] at r
    cases r
  | _ :: _, [], _, r => by
    simp only [D.pds] at r
    cases r
  | u :: us, d :: l, _, r => by
    simp only [D.pds] at r
    cases r with
    | cons r1 r2 =>
      obtain ⟨e, k⟩ := readsAll_at r2
      refine ⟨by simp [e], fun j hj => ?_⟩
      cases j with
      | zero => exact ⟨_, r1⟩
      | succ j => simpa using k j (by simpa using hj)
theorem cmp_run (o : Ord3) : ∀ (n : Nat) (d d' : D) (b : Bool), D.cmp o n d d' = some b → ∀ (A : Around) (s : Shared) (u u' : Value) (as bs : List Addr), Reads s.heap u d.pd as → Reads s.heap u' d'.pd bs → A.units + n + 30 < cLine → Ob.RcOp o.op A s u u' b := by
  have int_case : ∀ (i j : Int) (b : Bool), some (o.int i j) = some b → ∀ (A : Around) (s : Shared) (u u' : Value) (as bs : List Addr), Reads s.heap u (D.int i).pd as → Reads s.heap u' (D.int j).pd bs → Ob.RcOp o.op A s u u' b := by
    intro i j b h A s u u' as bs r r'
    cases h
    cases r
    cases r'
    cases o with
    | lt => exact Ob.RcOp.lt_int _ _ _ _
    | le => exact Ob.RcOp.le_int _ _ _ _
    | gt => exact Ob.RcOp.gt_int _ _ _ _
  intro n
  induction n with
  | zero =>
    intro d d' b h A s u u' as bs r r' hu
    cases d <;> cases d' <;> simp only [D.cmp] at h <;> first | (cases h; done) | exact int_case _ _ _ h A s u u' as bs r r'
  | succ n ih =>
    intro d d' b h A s u u' as bs r r' hu
    cases d with
    | int i =>
      cases d' with
      | int j => exact int_case _ _ _ (by simpa only [D.cmp] using h) A s u u' as bs r r'
      | _ => simp [D.cmp] at h
    | tup l =>
      cases d' with
      | tup m =>
        simp only [D.cmp] at h
        simp only [D.pd] at r r'
        cases r with
        | @tuple a oa vs na _ _ ho hc hd hr =>
          cases r' with
          | @tuple a' oa' vs' na' _ _ ho' hc' hd' hr' =>
            obtain ⟨e1, k1⟩ := readsAll_at hr
            obtain ⟨e2, k2⟩ := readsAll_at hr'
            have all := cmps_all l m _ b h
            have s1 : vs.size = l.length := by simpa using e1
            have s2 : vs'.size = m.length := by simpa using e2
            have lex := cmps_lex (e := fun j => (l.getD j .non).eqv (m.getD j .non)) (r := fun j => (D.cmp o n (l.getD j .non) (m.getD j .non)).getD false) l m _ b 0 h (fun j _ _ => by simp)
            have he : ∀ j (h1 : j < vs.size) (h2 : j < vs'.size), SeqAt.EqAt A.in1 s vs[j] vs'[j] ((l.getD j .non).eqv (m.getD j .non)) := fun j h1 h2 => by
              obtain ⟨p1, p2, _⟩ := all j (by omega) (by omega)
              obtain ⟨cs, q1⟩ := k1 j (by simpa using h1)
              obtain ⟨cs', q2⟩ := k2 j (by simpa using h2)
              obtain ⟨y1, y2⟩ := plain_lay _ _ p1
              obtain ⟨y3, y4⟩ := plain_lay _ _ p2
              have q1' : Reads s.heap vs[j] (l.getD j .non).pd cs := by simpa using q1
              have q2' : Reads s.heap vs'[j] (m.getD j .non).pd cs' := by simpa using q2
              have z := SeqAt.eqAt_reads _ _ A.in1 s _ _ _ _ q1' q2' y1 y3 (by have : A.in1.units = A.units + 1 := rfl; omega)
              rw [eqv_pd _ _ _ _ p1 p2] at z
              exact z
            have hr2 : ∀ j (h1 : j < vs.size) (h2 : j < vs'.size), (l.getD j .non).eqv (m.getD j .non) = false → Ob.RcOp o.op A.in1 s vs[j] vs'[j] ((D.cmp o n (l.getD j .non) (m.getD j .non)).getD false) := fun j h1 h2 e0 => by
              obtain ⟨p1, p2, p3⟩ := all j (by omega) (by omega)
              obtain ⟨c, hc0⟩ := p3 e0
              obtain ⟨cs, q1⟩ := k1 j (by simpa using h1)
              obtain ⟨cs', q2⟩ := k2 j (by simpa using h2)
              have q1' : Reads s.heap vs[j] (l.getD j .non).pd cs := by simpa using q1
              have q2' : Reads s.heap vs'[j] (m.getD j .non).pd cs' := by simpa using q2
              rw [hc0]
              exact ih _ _ c hc0 A.in1 s _ _ _ _ q1' q2' (by have : A.in1.units = A.units + 1 := rfl; omega)
            have T1 : s.heap.IsTuple a vs := ⟨oa, ho, hc, na, hd⟩
            have T2 : s.heap.IsTuple a' vs' := ⟨oa', ho', hc', na', hd'⟩
            rw [← lex]
            cases o with
            | lt =>
              have z := Ob.RcOp.tuples_lt (A := A) (s := s) T1 T2 (by omega) he hr2
              rw [s1, s2] at z
              exact z
            | le =>
              have z := Ob.RcOp.tuples_le (A := A) (s := s) T1 T2 (by omega) he hr2
              rw [s1, s2] at z
              exact z
            | gt =>
              have z := Ob.RcOp.tuples_gt (A := A) (s := s) T1 T2 (by omega) he hr2
              rw [s1, s2] at z
              exact z
      | _ => simp [D.cmp] at h
    | _ => simp [D.cmp] at h
def ordF (o : Ord3) (d e : D) : Option D := if d.plain 20 && e.plain 20 then (D.cmp o 10 d e).map D.bl else none
def rOrd (K : PySem.W.Frag) (o : Ord3) : R2 := fun x y H Q => ∃ (d d' : D) (b : Bool), Dp K H x d.pd ∧ Dp K H y d'.pd ∧ D.cmp o 10 d d' = some b ∧ Q (.bl b) H
theorem plain_up : ∀ (d : D) (n m : Nat), n ≤ m → d.plain n = true → d.plain m = true := by
  have main : ∀ (m : Nat), (∀ (d : D) (n : Nat), n ≤ m → d.plain n = true → d.plain m = true) := by
    intro m
    induction m with
    | zero =>
      intro d n h p
      have : n = 0 := by omega
      subst this
      exact p
    | succ m ih =>
      have lst : ∀ (l : List D) (n : Nat), n ≤ m → D.plains n l = true → D.plains m l = true := by
        intro l
        induction l with
        | nil => intro n _ _; rfl
        | cons x xs ihl =>
          intro n h p
          simp only [D.plains, Bool.and_eq_true] at p ⊢
          exact ⟨ih x n h p.1, ihl n h p.2⟩
      intro d n h p
      cases d with
      | tup l =>
        cases n with
        | zero => simp [D.plain] at p
        | succ n =>
          simp only [D.plain] at p ⊢
          exact lst l n (by omega) p
      | lst l =>
        cases n with
        | zero => simp [D.plain] at p
        | succ n =>
          simp only [D.plain] at p ⊢
          exact lst l n (by omega) p
      | _ => first | rfl | exact p | simp_all [D.plain]
  exact fun d n m h p => main m d n h p
section
variable {X : Cx} {W : WX} {a b : Expr} {ma mb : M Ref} {pos : Pos}
theorem op_ord (o : Ord3) (hu : X.A.units + 64 < cLine) : OpR X (compareOp o.op) (rOrd X.K o) := by
  intro pins s σ H x y v u Q I rx ry h
  obtain ⟨d, e, c, hd, he, hc, q⟩ := h
  obtain ⟨as, r1⟩ := Dp.reads I d.pd x v hd rx
  obtain ⟨bs, r2⟩ := Dp.reads I e.pd y u he ry
  have z := cmp_run o 10 d e c hc X.A s v u as bs r1 r2 (by omega) X.prog X.w X.xe (EP X pins σ Q) ⟨.bl c, H, I, rfl, q⟩
  cases o <;> exact z
theorem ops_ord (o : Ord3) : OpS X.w X.K (rOrd X.K o) (ordF o) := by
  intro ra HK F e σ H x y d d' z Q R hx hy hz q
  unfold ordF at hz
  by_cases c : (d.plain 20 && d'.plain 20) = true
  · rw [if_pos c] at hz
    obtain ⟨c1, c2⟩ := Bool.and_eq_true_iff.mp c
    cases hb : D.cmp o 10 d d' with
    | none =>
      rw [hb] at hz
      cases hz
    | some b =>
      rw [hb] at hz
      cases hz
      exact ⟨d, d', b, hx.dp R.fh (plain_up _ _ _ (by omega) c1), hy.dp R.fh (plain_up _ _ _ (by omega) c2), hb, q _ F H (Same.refl F) R (.bl _)⟩
  · rw [if_neg c] at hz
    cases hz
theorem pm_lt (hu : X.A.units + 64 < cLine) (ha : PMR X W a ma) (hb : PMR X W b mb) : PM X W (.Compare a [.Lt] [b] pos) (op2M ma mb (ordF .lt)) := pm_cmp (op_ord .lt hu) (ops_ord .lt) ha hb (nomark _)
theorem pm_le (hu : X.A.units + 64 < cLine) (ha : PMR X W a ma) (hb : PMR X W b mb) : PM X W (.Compare a [.LtE] [b] pos) (op2M ma mb (ordF .le)) := pm_cmp (op_ord .le hu) (ops_ord .le) ha hb (nomark _)
theorem pmt_lt (hu : X.A.units + 64 < cLine) (ha : PMR X W a ma) (hb : PMR X W b mb) : PMT X W (.Compare a [.Lt] [b] pos) (testM (op2M ma mb (ordF .lt))) := pmt_cmp (op_ord .lt hu) (ops_ord .lt) ha hb (nomark _)
theorem pmt_le (hu : X.A.units + 64 < cLine) (ha : PMR X W a ma) (hb : PMR X W b mb) : PMT X W (.Compare a [.LtE] [b] pos) (testM (op2M ma mb (ordF .le))) := pmt_cmp (op_ord .le hu) (ops_ord .le) ha hb (nomark _)
theorem pmt_gt (hu : X.A.units + 64 < cLine) (ha : PMR X W a ma) (hb : PMR X W b mb) : PMT X W (.Compare a [.Gt] [b] pos) (testM (op2M ma mb (ordF .gt))) := pmt_cmp (op_ord .gt hu) (ops_ord .gt) ha hb (nomark _)
def geF : D → D → Option D := cmpF fun i j => decide (j ≤ i)
theorem pmt_ge (ha : PMR X W a ma) (hb : PMR X W b mb) : PMT X W (.Compare a [.GtE] [b] pos) (testM (op2M ma mb geF)) := pmt_cmp op_ge ops_cmp ha hb (nomark _)
theorem pm_eq (hu : X.A.units + 64 < cLine) (ha : PMR X W a ma) (hb : PMR X W b mb) : PM X W (.Compare a [.Eq] [b] pos) (op2M ma mb eqF) := pm_cmp (op_eqD hu) ops_eq ha hb (nomark _)
theorem pmt_eq (hu : X.A.units + 64 < cLine) (ha : PMR X W a ma) (hb : PMR X W b mb) : PMT X W (.Compare a [.Eq] [b] pos) (testM (op2M ma mb eqF)) := pmt_cmp (op_eqD hu) ops_eq ha hb (nomark _)
theorem pmt_ne (hu : X.A.units + 64 < cLine) (ha : PMR X W a ma) (hb : PMR X W b mb) : PMT X W (.Compare a [.NotEq] [b] pos) (testM (op2M ma mb neF)) := pmt_cmp (op_neD hu) ops_ne ha hb (nomark _)
end
end Mi

set_option Elab.async false
set_option linter.all false
set_option maxRecDepth 100000
set_option maxHeartbeats 4000000
/-! Mi, part F: dicts with nested keys, or with numbers as keys. -/
namespace Mi
open PySem PySem.Spec PyProof.Rows L2

/-! ### the mirror's dicts -/
def sameKey (d e : D) : Bool := match d, e with
  | .tup _, .tup _ => true
  | .int _, .int _ => true
  | _, _ => false
def kindOk (kvs : List (D × D)) (k : D) : Bool := match kvs with
  | [] => sameKey k k
  | p :: _ => sameKey p.1 k
def dget (kvs : List (D × D)) (k : D) : Option D := (kvs.find? fun p => decide (p.1.hk = k.hk)).map (·.2)
def dput (kvs : List (D × D)) (k v : D) : List (D × D) :=
  if (kvs.any fun p => decide (p.1.hk = k.hk)) = true then kvs.map (fun p => if p.1.hk = k.hk then (p.1, v) else p) else kvs ++ [(k, v)]
/-! ### .. by machine values -/
def eget (es : List (NestedKey × V × V)) (k : NestedKey) : Option V := (es.find? fun e => decide (e.1 = k)).map (·.2.2)
def eput (es : List (NestedKey × V × V)) (k : NestedKey) (kv vv : V) : List (NestedKey × V × V) :=
  if (es.any fun e => decide (e.1 = k)) = true then es.map (fun e => if e.1 = k then (e.1, e.2.1, vv) else e) else es ++ [(k, kv, vv)]
theorem eget_cons {e : NestedKey × V × V} {es : List (NestedKey × V × V)} {k : NestedKey} : eget (e :: es) k = if e.1 = k then some e.2.2 else eget es k := by
  unfold eget
  rw [List.find?_cons]
  by_cases c : e.1 = k
  · rw [decide_eq_true c, if_pos c]
    rfl
  · rw [decide_eq_false c, if_neg c]
theorem dget_cons {p : D × D} {kvs : List (D × D)} {k : D} : dget (p :: kvs) k = if p.1.hk = k.hk then some p.2 else dget kvs k := by
  unfold dget
  rw [List.find?_cons]
  by_cases c : p.1.hk = k.hk
  · rw [decide_eq_true c, if_pos c]
    rfl
  · rw [decide_eq_false c, if_neg c]
section
variable {w : World} {K : PySem.W.Frag} {ra : Addr} {F : Hp}
theorem RepE.get : ∀ {es : List (NestedKey × V × V)} {kvs : List (D × D)} {dk : D} {k : NestedKey}, RepE w K ra F es kvs → dk.hk = some k →
    (∀ dv, dget kvs dk = some dv → ∃ vv, eget es k = some vv ∧ Rep w K ra F vv dv) ∧ (dget kvs dk = none → eget es k = none)
  | _, _, dk, k, .nil, h => ⟨fun dv e => (by cases e), fun _ => rfl⟩
  | _, _, dk, k, .cons (k := k') (dk := dk') hk h1 h2 r, h => by
    rw [dget_cons, eget_cons]
    obtain ⟨i1, i2⟩ := RepE.get r h
    by_cases c : k' = k
    · have c' : dk'.hk = dk.hk := by rw [hk, h, c]
      rw [if_pos c, if_pos c']
      exact ⟨fun dv e => by cases e; exact ⟨_, rfl, h2⟩, fun e => by cases e⟩
    · have c' : ¬ dk'.hk = dk.hk := fun z => c (by rw [hk, h] at z; exact Option.some.inj z)
      rw [if_neg c, if_neg c']
      exact ⟨i1, i2⟩
theorem RepE.any : ∀ {es : List (NestedKey × V × V)} {kvs : List (D × D)} {dk : D} {k : NestedKey}, RepE w K ra F es kvs → dk.hk = some k →
    (es.any fun e => decide (e.1 = k)) = (kvs.any fun p => decide (p.1.hk = dk.hk))
  | _, _, dk, k, .nil, h => rfl
  | _, _, dk, k, .cons (k := k') (dk := dk') hk h1 h2 r, h => by
    rw [List.any_cons, List.any_cons, RepE.any r h]
    have : decide (k' = k) = decide (dk'.hk = dk.hk) := by
      rw [hk, h]
      by_cases c : k' = k
      · rw [decide_eq_true c, decide_eq_true (congrArg some c)]
      · rw [decide_eq_false c, decide_eq_false fun z => c (Option.some.inj z)]
    rw [this]
theorem RepE.repl : ∀ {es : List (NestedKey × V × V)} {kvs : List (D × D)} {dk : D} {k : NestedKey} {vv : V} {dv : D}, RepE w K ra F es kvs → dk.hk = some k → Rep w K ra F vv dv →
    RepE w K ra F (es.map fun e => if e.1 = k then (e.1, e.2.1, vv) else e) (kvs.map fun p => if p.1.hk = dk.hk then (p.1, dv) else p)
  | _, _, dk, k, vv, dv, .nil, h, hv => .nil
  | _, _, dk, k, vv, dv, .cons (k := k') (dk := dk') hk h1 h2 r, h, hv => by
    rw [List.map_cons, List.map_cons]
    by_cases c : k' = k
    · have c' : dk'.hk = dk.hk := by rw [hk, h, c]
      rw [if_pos c, if_pos c']
      exact .cons hk h1 hv (RepE.repl r h hv)
    · have c' : ¬ dk'.hk = dk.hk := fun z => c (by rw [hk, h] at z; exact Option.some.inj z)
      rw [if_neg c, if_neg c']
      exact .cons hk h1 h2 (RepE.repl r h hv)
theorem RepE.snoc : ∀ {es : List (NestedKey × V × V)} {kvs : List (D × D)} {dk dv : D} {k : NestedKey} {kv vv : V}, RepE w K ra F es kvs → dk.hk = some k → Rep w K ra F kv dk → Rep w K ra F vv dv →
    RepE w K ra F (es ++ [(k, kv, vv)]) (kvs ++ [(dk, dv)])
  | _, _, _, _, _, _, _, .nil, h, h1, h2 => .cons h h1 h2 .nil
  | _, _, _, _, _, _, _, .cons a b c r, h, h1, h2 => .cons a b c (RepE.snoc r h h1 h2)
theorem RepE.put {es : List (NestedKey × V × V)} {kvs : List (D × D)} {dk dv : D} {k : NestedKey} {kv vv : V} (r : RepE w K ra F es kvs) (h : dk.hk = some k) (h1 : Rep w K ra F kv dk) (h2 : Rep w K ra F vv dv) :
    RepE w K ra F (eput es k kv vv) (dput kvs dk dv) := by
  unfold eput dput
  rw [r.any h]
  by_cases c : (kvs.any fun p => decide (p.1.hk = dk.hk)) = true
  · rw [if_pos c, if_pos c]
    exact r.repl h h2
  · rw [if_neg c, if_neg c]
    exact r.snoc h h1 h2
end

/-! ### two sorts of keys -/
def ER (e : NestedKey × V × V) (x : NestedKey × Addr × Value) : Prop := e.1 = x.1 ∧ e.2.1 = .ref x.2.1 ∧ RelV e.2.2 x.2.2
def IR (e : NestedKey × V × V) (q : Int × Value) : Prop := e.1 = .num q.1 ∧ e.2.1 = .int q.1 ∧ RelV e.2.2 q.2
theorem ER.get {k : NestedKey} : ∀ {es : List (NestedKey × V × V)} {xs : List (NestedKey × Addr × Value)}, Paired ER es xs → (∀ vv, eget es k = some vv → ∃ p, atKey xs k = some p ∧ RelV vv p.2) ∧ (eget es k = none → atKey xs k = none)
  | _, _, .nil => ⟨fun vv e => (by cases e), fun _ => rfl⟩
  | e :: es, x :: xs, .cons h r => by
    obtain ⟨i1, i2⟩ := ER.get r
    obtain ⟨h1, h2, h3⟩ := h
    rw [eget_cons]
    by_cases c : e.1 = k
    · have b : atKey (x :: xs) k = some x.2 := by simp [atKey, List.find?_cons, h1 ▸ c]
      rw [if_pos c, b]
      exact ⟨fun vv q => by cases q; exact ⟨_, rfl, h3⟩, fun q => by cases q⟩
    · have c' : ¬ x.1 = k := fun z => c (h1.trans z)
      have b : atKey (x :: xs) k = atKey xs k := by simp [atKey, List.find?_cons, c']
      rw [if_neg c, b]
      exact ⟨i1, i2⟩
theorem IR.get {k : Int} : ∀ {es : List (NestedKey × V × V)} {xs : List (Int × Value)}, Paired IR es xs → (∀ vv, eget es (.num k) = some vv → ∃ p, valueAt xs k = some p ∧ RelV vv p) ∧ (eget es (.num k) = none → valueAt xs k = none)
  | _, _, .nil => ⟨fun vv e => (by cases e), fun _ => rfl⟩
  | e :: es, x :: xs, .cons h r => by
    obtain ⟨i1, i2⟩ := IR.get r
    obtain ⟨h1, h2, h3⟩ := h
    rw [eget_cons]
    by_cases c : e.1 = .num k
    · have c' : x.1 = k := by rw [h1] at c; injection c
      have b : valueAt (x :: xs) k = some x.2 := by simp [valueAt, List.find?_cons, c']
      rw [if_pos c, b]
      exact ⟨fun vv q => by cases q; exact ⟨_, rfl, h3⟩, fun q => by cases q⟩
    · have c' : ¬ x.1 = k := fun z => c (by rw [h1, z])
      have b : valueAt (x :: xs) k = valueAt xs k := by simp [valueAt, List.find?_cons, c']
      rw [if_neg c, b]
      exact ⟨i1, i2⟩
theorem paired_snoc {α β : Type} {R : α → β → Prop} : ∀ {l : List α} {m : List β} {a : α} {b : β}, Paired R l m → R a b → Paired R (l ++ [a]) (m ++ [b])
  | _, _, _, _, .nil, h => .cons h .nil
  | _, _, _, _, .cons h r, q => .cons h (paired_snoc r q)
theorem ER.put {k : NestedKey} {a : Addr} {vv : V} {u : Value} (hv : RelV vv u) {es : List (NestedKey × V × V)} {xs : List (NestedKey × Addr × Value)} (r : Paired ER es xs) : Paired ER (eput es k (.ref a) vv) (storedH xs k a u) := by
  have anyE : (es.any fun e => decide (e.1 = k)) = (atKey xs k).isSome := by
    induction r with
    | nil => rfl
    | @cons e x es xs h t ih =>
      rw [List.any_cons, ih]
      by_cases c : e.1 = k
      · have b : atKey (x :: xs) k = some x.2 := by simp [atKey, List.find?_cons, h.1 ▸ c]
        rw [decide_eq_true c, b]
        rfl
      · have c' : ¬ x.1 = k := fun z => c (h.1.trans z)
        have b : atKey (x :: xs) k = atKey xs k := by simp [atKey, List.find?_cons, c']
        rw [decide_eq_false c, b, Bool.false_or]
  have repl : Paired ER (es.map fun e => if e.1 = k then (e.1, e.2.1, vv) else e) (xs.map (putAt k u)) := by
    clear anyE
    induction r with
    | nil => exact .nil
    | @cons e x es xs h t ih =>
      rw [List.map_cons, List.map_cons]
      refine .cons ?_ ih
      unfold putAt
      by_cases c : e.1 = k
      · rw [if_pos c, if_pos (h.1.symm.trans c)]
        exact ⟨h.1, h.2.1, hv⟩
      · rw [if_neg c, if_neg fun z => c (h.1.trans z)]
        exact h
  unfold eput storedH
  rw [anyE]
  by_cases c : (atKey xs k).isSome = true
  · rw [if_pos c, if_pos c]
    exact repl
  · rw [if_neg c, if_neg c]
    exact paired_snoc r ⟨rfl, rfl, hv⟩
theorem IR.put {k : Int} {vv : V} {u : Value} (hv : RelV vv u) {es : List (NestedKey × V × V)} {xs : List (Int × Value)} (r : Paired IR es xs) : Paired IR (eput es (.num k) (.int k) vv) (stored xs k u) := by
  have key : ∀ {e : NestedKey × V × V} {x : Int × Value}, IR e x → (e.1 = .num k ↔ x.1 = k) := fun {e x} h => ⟨fun z => by rw [h.1] at z; injection z, fun z => by rw [h.1, z]⟩
  have anyE : (es.any fun e => decide (e.1 = NestedKey.num k)) = (xs.any fun kv => decide (kv.1 = k)) := by
    induction r with
    | nil => rfl
    | @cons e x es xs h t ih =>
      rw [List.any_cons, List.any_cons, ih, decide_eq_decide.mpr (key h)]
  have repl : Paired IR (es.map fun e => if e.1 = NestedKey.num k then (e.1, e.2.1, vv) else e) (xs.map fun kv => if kv.1 = k then (kv.1, u) else kv) := by
    clear anyE
    induction r with
    | nil => exact .nil
    | @cons e x es xs h t ih =>
      rw [List.map_cons, List.map_cons]
      refine .cons ?_ ih
      by_cases c : e.1 = .num k
      · rw [if_pos c, if_pos ((key h).mp c)]
        exact ⟨h.1, h.2.1, hv⟩
      · rw [if_neg c, if_neg fun z => c ((key h).mpr z)]
        exact h
  unfold eput stored
  rw [anyE]
  by_cases c : (xs.any fun kv => decide (kv.1 = k)) = true
  · rw [if_pos c, if_pos c]
    exact repl
  · rw [if_neg c, if_neg c]
    exact paired_snoc r ⟨rfl, rfl, hv⟩

/-! ### to and from the library's dicts -/
section
variable {X : Cx} {pins : List (Addr × Obj)} {σ : L2.St} {H F : Hp} {s : Shared} {ra : Addr}
mutual
theorem Rep.nested (I : Inv X pins σ H s) (fh : Same F H) : ∀ (d : D) {v : V} {k : NestedKey} {u : Value}, Rep X.w X.K ra F v d → d.key = some k → RelV v u → NestedIs s.heap k u
  | .non, v, k, u, r, h, q => by
    cases h
    cases r
    cases q
    exact .none
  | .int i, v, k, u, r, h, q => by
    cases h
    cases r
    obtain ⟨t, rfl⟩ := q
    exact .int i t
  | .str x, v, k, u, r, h, q => by
    cases h
    cases r
    obtain ⟨t, rfl⟩ := q
    exact .text x t
  | .bl b, v, k, u, r, h, q => by
    cases h
    cases r
    cases q
    exact .bool rfl
  | .tup l, v, k, u, r, h, q => by
    simp only [D.key, Option.map_eq_some_iff] at h
    obtain ⟨ks, h1, rfl⟩ := h
    cases r with
    | tup hs ha =>
      cases q
      obtain ⟨its, rv, ⟨o, ho, hc, n, hd⟩, _⟩ := I.tuple (Same.seqT fh hs)
      exact .tup ho hc hd (by simpa using RepA.nested I fh l ha h1 rv)
  | .lst _, _, _, _, _, h, _ => by cases h
  | .dct _, _, _, _, _, h, _ => by cases h
  | .obj _, _, _, _, _, h, _ => by cases h
  | .row, _, _, _, _, h, _ => by cases h
theorem RepA.nested (I : Inv X pins σ H s) (fh : Same F H) : ∀ (l : List D) {vs : List V} {ks : List NestedKey} {us : List Value}, RepA X.w X.K ra F vs l → D.keys l = some ks → Vals vs us → NestedAll s.heap ks us
  | [], vs, ks, us, r, h, q => by
    cases h
    cases r
    cases q
    exact .nil
  | d :: ds, vs, ks, us, r, h, q => by
    simp only [D.keys] at h
    cases e1 : d.key with
    | none =>
      rw [e1] at h
      cases h
    | some k =>
      cases e2 : D.keys ds with
      | none =>
        rw [e1, e2] at h
        cases h
      | some ks' =>
        rw [e1, e2] at h
        cases h
        cases r with
        | cons r1 r2 =>
          cases q with
          | cons q1 q2 => exact .cons (Rep.nested I fh d r1 e1 q1) (RepA.nested I fh ds r2 e2 q2)
end
theorem inv_dictP {a : Addr} {es : List (NestedKey × V × V)} (I : Inv X pins σ H s) (h : DictAt X.w H a es) :
    (a == sysModules) = false ∧ es.length ≤ sizeLine ∧ (es.map (·.1)).Nodup ∧ Uni es ∧ ∃ o des ep, s.heap.get? a = some o ∧ o.ExactDict ∧ o.data = .dict des ep ∧ Paired (DEnt X.w) es des.toList ∧ H a = some (objO a o) := by
  obtain ⟨o, h1, p1, p2, p3, p4, hc, des, ep, hd, pr⟩ := h
  exact ⟨p1, p2, p3, p4, o, des, ep, (show ObjOk X.prog X.w H s.heap a (objO a o) from I.hok a _ h1).1, hc, hd, pr, h1⟩
theorem refs_of {w : World} {P : Program} : ∀ {es : List (NestedKey × V × V)} {des : List DictEntry}, Paired (DEnt w) es des → (∀ e ∈ es, ∃ a, e.2.1 = .ref a) → ∃ xs : List (NestedKey × Addr × Value), Paired ER es xs ∧ des = xs.map (entryOfKey (nestedKind P w))
  | _, _, .nil, _ => ⟨[], .nil, rfl⟩
  | e :: es, de :: des, .cons h r, k => by
    obtain ⟨xs, h1, h2⟩ := refs_of (P := P) r fun x hx => k x (List.mem_cons_of_mem _ hx)
    obtain ⟨a, ea⟩ := k e List.mem_cons_self
    obtain ⟨g1, g2, g3⟩ := h
    rw [ea] at g2
    have g2' : de.key = .ref a := g2
    refine ⟨(e.1, a, de.val) :: xs, .cons ⟨rfl, ea, g3⟩ h1, ?_⟩
    rw [List.map_cons, h2]
    congr 1
    obtain ⟨hh, kk, vv⟩ := de
    show DictEntry.mk hh kk vv = ⟨(nestedKind P w).hash e.1, .ref a, vv⟩
    have e1 : hh = e.1.hash w := g1
    have e2 : kk = .ref a := g2'
    rw [e1, e2]
    rfl
theorem ints_of {w : World} {K : PySem.W.Frag} {P : Program} : ∀ {es : List (NestedKey × V × V)} {kvs : List (D × D)} {des : List DictEntry}, RepE w K ra F es kvs → Paired (DEnt w) es des → (∀ e ∈ es, ∃ i, e.2.1 = .int i) → ∃ xs : List (Int × Value), Paired IR es xs ∧ Pairs (PySem.intKind P w) des xs ∧ ∀ de ∈ des, ∃ k, (PySem.intKind P w).is k de.key = true ∧ de.hash = (PySem.intKind P w).hash k
  | _, _, _, .nil, .nil, _ => ⟨[], .nil, .nil, fun _ h => by cases h⟩
  | e :: es, _, de :: des, .cons hk r1 r2 rr, .cons h r, k => by
    obtain ⟨xs, h1, h2, h3⟩ := ints_of (P := P) rr r fun x hx => k x (List.mem_cons_of_mem _ hx)
    obtain ⟨i, ei⟩ := k _ List.mem_cons_self
    obtain ⟨g1, g2, g3⟩ := h
    rw [ei] at g2
    obtain ⟨t, g2'⟩ := (show ∃ t, de.key = .int i t from g2)
    have ek : e.1 = .num i := by
      have hk1 := (hk_of hk).1
      rw [show _ = V.int i from ei] at r1
      cases r1
      simp [D.key] at hk1
      exact hk1.symm
    have isk : (PySem.intKind P w).is i de.key = true := by
      rw [g2']
      show Value.isInt i (.int i t) = true
      simp [Value.isInt]
    refine ⟨(i, de.val) :: xs, .cons ⟨ek, ei, g3⟩ h1, .cons isk rfl h2, fun x hx => ?_⟩
    rcases List.mem_cons.mp hx with z | hx
    · subst z
      exact ⟨i, isk, by rw [g1, ek]; rfl⟩
    · exact h3 x hx
theorem RepE.all_nested (I : Inv X pins σ H s) (fh : Same F H) : ∀ {es : List (NestedKey × V × V)} {kvs : List (D × D)} {xs : List (NestedKey × Addr × Value)}, RepE X.w X.K ra F es kvs → Paired ER es xs → ∀ x ∈ xs, (nestedKind X.prog X.w).is s.heap x.1 x.2.1
  | _, _, _, .nil, .nil, x, hx => by cases hx
  | _, _, _, .cons hk r1 r2 rr, .cons h r, x, hx => by
    rcases List.mem_cons.mp hx with z | hx
    · subst z
      obtain ⟨g1, g2, g3⟩ := h
      obtain ⟨k1, k2⟩ := hk_of hk
      have g2' : _ = V.ref x.2.1 := g2
      subst g2'
      have g1' : _ = x.1 := g1
      subst g1'
      exact ⟨Rep.nested I fh _ r1 k1 rfl, k2⟩
    · exact RepE.all_nested I fh rr r x hx
/-- the dict as the library has it -/
theorem inv_dictRef {a : Addr} {es : List (NestedKey × V × V)} {kvs : List (D × D)} (I : Inv X pins σ H s) (fh : Same F H) (h : DictAt X.w H a es) (r : RepE X.w X.K ra F es kvs) (hr : ∀ e ∈ es, ∃ a, e.2.1 = .ref a) :
    ∃ xs, Paired ER es xs ∧ s.heap.DictOfH (nestedKind X.prog X.w) a xs ∧ (a == sysModules) = false ∧ es.length ≤ sizeLine := by
  obtain ⟨p1, p2, p3, p4, o, des, ep, ho, hc, hd, pr, _⟩ := inv_dictP I h
  obtain ⟨xs, x1, x2⟩ := refs_of (P := X.prog) pr hr
  refine ⟨xs, x1, ⟨o, des, ep, ho, hc, hd, x2, RepE.all_nested I fh r x1, ?_⟩, p1, p2⟩
  have : xs.map (·.1) = es.map (·.1) := by
    clear x2 pr r hr p2 p3 p4 h
    induction x1 with
    | nil => rfl
    | cons h t ih => rw [List.map_cons, List.map_cons, ih, h.1]
  rw [this]
  exact p3
theorem inv_dictInt {a : Addr} {es : List (NestedKey × V × V)} {kvs : List (D × D)} (I : Inv X pins σ H s) (h : DictAt X.w H a es) (r : RepE X.w X.K ra F es kvs) (hr : ∀ e ∈ es, ∃ a, e.2.1 = .int a) :
    ∃ xs, Paired IR es xs ∧ s.heap.DictOf (PySem.intKind X.prog X.w) a xs ∧ (a == sysModules) = false ∧ es.length ≤ sizeLine := by
  obtain ⟨p1, p2, p3, p4, o, des, ep, ho, hc, hd, pr, _⟩ := inv_dictP I h
  obtain ⟨xs, x1, x2, x3⟩ := ints_of (P := X.prog) r pr hr
  refine ⟨xs, x1, ⟨o, des, ep, ho, hc, hd, fun e he => x3 e (by simpa using he), x2, ?_⟩, p1, p2⟩
  have : es.map (·.1) = (xs.map (·.1)).map NestedKey.num := by
    clear x2 x3 pr r hr p2 p3 p4 h
    induction x1 with
    | nil => rfl
    | cons h t ih => rw [List.map_cons, List.map_cons, List.map_cons, ih, h.1]
  rw [this] at p3
  exact List.Pairwise.of_map _ (fun a b (z : NestedKey.num a ≠ NestedKey.num b) e => z (by rw [e])) p3
end
end Mi

set_option Elab.async false
set_option linter.all false
set_option maxRecDepth 100000
set_option maxHeartbeats 4000000
/-! Mi, part G: in, subscripts, slices, len. -/
namespace Mi
open PySem PySem.Spec PyProof.Rows L2

section
variable {w : World} {K : PySem.W.Frag} {ra : Addr} {F : Hp}
theorem uni_refs {es : List (NestedKey × V × V)} {kvs : List (D × D)} {l : List D} (r : RepE w K ra F es kvs) (u : Uni es) (k : kindOk kvs (.tup l) = true) : ∀ e ∈ es, ∃ a, e.2.1 = .ref a := by
  cases r with
  | nil => exact fun e h => by cases h
  | @cons k0 kv vv dk dv es kvs hk r1 r2 rr =>
    cases dk with
    | tup m =>
      rcases u with u | u
      · exact u
      · obtain ⟨i, ei⟩ := u _ List.mem_cons_self
        cases r1
        cases ei
    | _ => cases k
theorem uni_ints {es : List (NestedKey × V × V)} {kvs : List (D × D)} {i : Int} (r : RepE w K ra F es kvs) (u : Uni es) (k : kindOk kvs (.int i) = true) : ∀ e ∈ es, ∃ a, e.2.1 = .int a := by
  cases r with
  | nil => exact fun e h => by cases h
  | @cons k0 kv vv dk dv es kvs hk r1 r2 rr =>
    cases dk with
    | int m =>
      rcases u with u | u
      · obtain ⟨a, ea⟩ := u _ List.mem_cons_self
        cases r1
        cases ea
      · exact u
    | _ => cases k
end
/-- a dict as a rule sees it -/
structure DAt (w : World) (K : PySem.W.Frag) (ra : Addr) (F H : Hp) (y : V) (a : Addr) (es : List (NestedKey × V × V)) (kvs : List (D × D)) : Prop where
  eq : y = .ref a
  fh : Same F H
  at_ : DictAt w H a es
  rep : RepE w K ra F es kvs
theorem Held.dat {w : World} {K : PySem.W.Frag} {ra : Addr} {F H : Hp} (fh : Same F H) {v : V} {kvs : List (D × D)} (h : Held w K ra F H v (.dct kvs)) : ∃ a es, DAt w K ra F H v a es kvs := by
  obtain ⟨a, es, h1, h2, h3⟩ := h.dct fh
  exact ⟨a, es, h1, fh, h2, h3⟩
section
variable {X : Cx}
/-- k in d -/
def rInN (w : World) (K : PySem.W.Frag) (neg : Bool) : R2 := fun x y H Q => ∃ ra F a es kvs dk, DAt w K ra F H y a es kvs ∧ Rep w K ra F x dk ∧ kindOk kvs dk = true ∧ dk.hk.isSome = true ∧ Q (.bl (if neg then !(dget kvs dk).isSome else (dget kvs dk).isSome)) H
theorem some_of {α : Type} {o : Option α} (h : o.isSome = true) : ∃ a, o = some a := by
  cases o with
  | none => cases h
  | some a => exact ⟨a, rfl⟩
theorem eget_some {w : World} {K : PySem.W.Frag} {ra : Addr} {F : Hp} {es : List (NestedKey × V × V)} {kvs : List (D × D)} {dk : D} {k : NestedKey} (r : RepE w K ra F es kvs) (h : dk.hk = some k) : (eget es k).isSome = (dget kvs dk).isSome := by
  obtain ⟨g1, g2⟩ := r.get h
  cases e : dget kvs dk with
  | none =>
    rw [g2 e]
    rfl
  | some dv =>
    obtain ⟨vv, h1, _⟩ := g1 dv e
    rw [h1]
    rfl
theorem op_notinN (hu : X.A.units + 64 < cLine) : OpR X (compareOp .NotIn) (rInN X.w X.K true) := by
  intro pins s σ H x y v u Q I rx ry h
  obtain ⟨ra, F, a, es, kvs, dk, d, r, hk, hs, q⟩ := h
  obtain ⟨rfl, fh, ha, re⟩ := d
  obtain ⟨k, ek⟩ := some_of hs
  cases ry
  have un := (inv_dictP I ha).2.2.2.1
  have eq : (eget es k).isSome = (dget kvs dk).isSome := eget_some re ek
  have hu8 : X.A.in1.units + 8 < cLine := by
    have : X.A.in1.units = X.A.units + 1 := rfl
    omega
  cases dk with
  | tup l =>
    obtain ⟨xs, p, hm, hd, _⟩ := inv_dictRef I fh ha re (uni_refs re un hk)
    cases r with
    | @tup b vs ds hq hr =>
      cases rx
      have kk := hk_of ek
      have isk : (nestedKind X.prog X.w).is s.heap k b := ⟨Rep.nested I fh (.tup l) (.tup hq hr) kk.1 rfl, kk.2⟩
      show wpAny _ _ (do return Value.bool (!(← contains (.ref a) (.ref b)))) _ _ s
      refine wpAny_bind (wpAny_contains_heap hu8 isk hd hm (wpAny_pure ⟨.bl _, H, I.tok _, rfl, ?_⟩))
      have : (atKey xs k).isSome = (eget es k).isSome := by
        obtain ⟨g1, g2⟩ := ER.get (k := k) p
        cases e : eget es k with
        | none =>
          rw [g2 e]
          rfl
        | some vv =>
          obtain ⟨p, h1, _⟩ := g1 vv e
          rw [h1]
          rfl
      rw [this, eq]
      exact q
  | int i =>
    obtain ⟨xs, p, hm, hd, _⟩ := inv_dictInt I ha re (uni_ints re un hk)
    cases r
    obtain ⟨t, rfl⟩ := rx
    have ei : k = .num i := by
      have := (hk_of ek).1
      simp [D.key] at this
      exact this.symm
    subst ei
    refine wpAny_notIn_of (knd := PySem.intKind X.prog X.w) (k := i) (by simp [PySem.intKind, Value.isInt]) hd hm.mapOf ⟨.bl _, H, I.tok _, rfl, ?_⟩
    have : (valueAt xs i).isSome = (eget es (.num i)).isSome := by
      obtain ⟨g1, g2⟩ := IR.get (k := i) p
      cases e : eget es (.num i) with
      | none =>
        rw [g2 e]
        rfl
      | some vv =>
        obtain ⟨p, h1, _⟩ := g1 vv e
        rw [h1]
        rfl
    rw [this, eq]
    exact q
  | _ => cases kvs with
    | nil => cases hk
    | cons p kvs => (obtain ⟨p1, p2⟩ := p; cases p1 <;> cases hk)
/-- x in a list or tuple of data -/
def rInS (K : PySem.W.Frag) (neg : Bool) : R2 := fun x y H Q => ∃ d ds, Dp K H x d ∧ (Dp K H y (.list ds) ∨ Dp K H y (.tuple ds)) ∧ SeqAt.shaped d = true ∧ PyData.canLayAll0 ds = true ∧ Q (.bl (if neg then !(ds.any fun z => PyData.eqv z d) else ds.any fun z => PyData.eqv z d)) H
theorem op_notinS (hu : X.A.units + 65 < cLine) : OpR X (compareOp .NotIn) (rInS X.K true) := by
  intro pins s σ H x y v u Q I rx ry h
  obtain ⟨d, ds, hd, he, sd, se, q⟩ := h
  obtain ⟨as, r1⟩ := Dp.reads I d x v hd rx
  rcases he with he | he
  · obtain ⟨bs, r2⟩ := Dp.reads I (.list ds) y u he ry
    exact SeqAt.notIn_list_reads r2 r1 se (SeqAt.canLay_of_shaped sd) (room_in_shaped sd hu) ⟨.bl _, H, I, rfl, q⟩
  · obtain ⟨bs, r2⟩ := Dp.reads I (.tuple ds) y u he ry
    exact SeqAt.notIn_tuple_reads r2 r1 se (SeqAt.canLay_of_shaped sd) (room_in_shaped sd hu) ⟨.bl _, H, I, rfl, q⟩
def inF (neg : Bool) (d c : D) : Option D := match c with
  | .lst l => if d.plain 20 && D.plains 20 l then some (.bl (if neg then !(l.any fun z => z.eqv d) else l.any fun z => z.eqv d)) else none
  | .tup l => if d.plain 20 && D.plains 20 l then some (.bl (if neg then !(l.any fun z => z.eqv d) else l.any fun z => z.eqv d)) else none
  | .dct kvs => if kindOk kvs d && d.hk.isSome then some (.bl (if neg then !(dget kvs d).isSome else (dget kvs d).isSome)) else none
  | _ => none
theorem pds_any {d : D} (hd : d.plain 20 = true) : ∀ (l : List D), D.plains 20 l = true → ((D.pds l).any fun z => PyData.eqv z d.pd) = l.any fun z => z.eqv d
  | [], _ => rfl
  | x :: xs, h => by
    simp only [D.plains, Bool.and_eq_true] at h
    simp only [D.pds, List.any_cons]
    rw [eqv_pd x d 20 20 h.1 hd, pds_any hd xs h.2]
theorem ops_in (neg : Bool) : OpS X.w X.K (fun x y H Q => rInN X.w X.K neg x y H Q ∨ rInS X.K neg x y H Q) (inF neg) := by
  intro ra HK F e σ H x y d c z Q R hx hy hz q
  cases c with
  | dct kvs =>
    simp only [inF] at hz
    by_cases k : (kindOk kvs d && d.hk.isSome) = true
    · rw [if_pos k] at hz
      cases hz
      obtain ⟨k1, k2⟩ := Bool.and_eq_true_iff.mp k
      obtain ⟨a, es, da⟩ := hy.dat R.fh
      refine .inl ⟨ra, F, a, es, kvs, d, da, ?_, k1, k2, q _ F H (Same.refl F) R (.bl _)⟩
      cases hx with
      | val r => exact r
      | @own a o _ _ _ => cases o <;> (cases kvs with
        | nil => cases k1
        | cons p kvs => (obtain ⟨p1, p2⟩ := p; cases p1 <;> cases k1))
    · rw [if_neg k] at hz
      cases hz
  | lst l =>
    simp only [inF] at hz
    by_cases k : (d.plain 20 && D.plains 20 l) = true
    · rw [if_pos k] at hz
      cases hz
      obtain ⟨k1, k2⟩ := Bool.and_eq_true_iff.mp k
      have p60 := plain_up d 20 60 (by omega) k1
      have l60 : (D.lst l).plain 60 = true := plain_up (.lst l) 21 60 (by omega) (by simpa only [D.plain] using k2)
      refine .inr ⟨d.pd, D.pds l, hx.dp R.fh p60, .inl (by simpa only [D.pd] using hy.dp R.fh l60), plain_shaped p60, (plains_lay l 20 k2).1, ?_⟩
      rw [pds_any k1 l k2]
      exact q _ F H (Same.refl F) R (.bl _)
    · rw [if_neg k] at hz
      cases hz
  | tup l =>
    simp only [inF] at hz
    by_cases k : (d.plain 20 && D.plains 20 l) = true
    · rw [if_pos k] at hz
      cases hz
      obtain ⟨k1, k2⟩ := Bool.and_eq_true_iff.mp k
      have p60 := plain_up d 20 60 (by omega) k1
      have l60 : (D.tup l).plain 60 = true := plain_up (.tup l) 21 60 (by omega) (by simpa only [D.plain] using k2)
      refine .inr ⟨d.pd, D.pds l, hx.dp R.fh p60, .inr (by simpa only [D.pd] using hy.dp R.fh l60), plain_shaped p60, (plains_lay l 20 k2).1, ?_⟩
      rw [pds_any k1 l k2]
      exact q _ F H (Same.refl F) R (.bl _)
    · rw [if_neg k] at hz
      cases hz
  | _ => cases hz
variable {W : WX} {a b : Expr} {ma mb : M Ref} {pos : Pos}
theorem pm_notin (hu : X.A.units + 65 < cLine) (ha : PMR X W a ma) (hb : PMR X W b mb) (hm : behindInMarks .NotIn b = false := by rfl) : PM X W (.Compare a [.NotIn] [b] pos) (op2M ma mb (inF true)) := pm_cmp (OpR.or (op_notinN (by omega)) (op_notinS hu)) (ops_in true) ha hb hm
theorem pmt_notin (hu : X.A.units + 65 < cLine) (ha : PMR X W a ma) (hb : PMR X W b mb) (hm : behindInMarks .NotIn b = false := by rfl) : PMT X W (.Compare a [.NotIn] [b] pos) (testM (op2M ma mb (inF true))) := pmt_cmp (OpR.or (op_notinN (by omega)) (op_notinS hu)) (ops_in true) ha hb hm
end
end Mi

set_option Elab.async false
set_option linter.all false
set_option maxRecDepth 100000
set_option maxHeartbeats 4000000
/-! Mi, part H: subscripts, slices, len, isinstance, is, and, or, not, if, attributes. -/
namespace Mi
open PySem PySem.Spec PyProof.Rows L2

theorem atI_rep {w : World} {K : PySem.W.Frag} {ra : Addr} {F : Hp} {vs : List V} {ds : List D} (r : RepA w K ra F vs ds) {i : Int} {d : D} (h : atI ds i = some d) : ∃ v, atI vs i = some v ∧ Rep w K ra F v d := by
  unfold atI at h ⊢
  rw [r.length]
  cases e : ixN ds.length i with
  | none =>
    rw [e] at h
    cases h
  | some j =>
    rw [e] at h
    have h' : ds[j]? = some d := h
    obtain ⟨v, h1, h2⟩ := r.get h'
    exact ⟨v, h1, h2⟩
/-- x[i] -/
def ixF (d i : D) : Option D := match d with
  | .lst l => (match i with | .int i => atI l i | _ => none)
  | .tup l => (match i with | .int i => atI l i | _ => none)
  | .dct kvs => if kindOk kvs i && i.hk.isSome then dget kvs i else none
  | _ => none
section
variable {X : Cx}
/-- d[k] -/
def rIxN (w : World) (K : PySem.W.Frag) : R2 := fun x y H Q => ∃ ra F a es kvs dk dv, DAt w K ra F H x a es kvs ∧ Rep w K ra F y dk ∧ kindOk kvs dk = true ∧ dk.hk.isSome = true ∧ dget kvs dk = some dv ∧ ∀ v, Rep w K ra F v dv → Q v H
theorem ix_dict (hu : X.A.units + 64 < cLine) : IxR X (rIxN X.w X.K) := by
  intro value slice pins s σ H x y v u Q I rx ry h hsl
  obtain ⟨ra, F, a, es, kvs, dk, dv, d, r, hk, hs, hg, q⟩ := h
  obtain ⟨rfl, fh, ha, re⟩ := d
  obtain ⟨k, ek⟩ := some_of hs
  cases rx
  have un := (inv_dictP I ha).2.2.2.1
  obtain ⟨vv, g1, g2⟩ := (re.get ek).1 dv hg
  have hu8 : X.A.in1.units + 8 < cLine := by
    have : X.A.in1.units = X.A.units + 1 := rfl
    omega
  have hT : s.TypeIs (.ref a) "dict" := by
    obtain ⟨_, _, _, _, o, _, _, ho, hc, _⟩ := inv_dictP I ha
    exact ⟨o, ho, hc.1⟩
  have main : wpAny (model X.prog X.w) X.A (getItem (.ref a) u) (EP X pins σ Q) X.xe s := by
    cases dk with
    | tup l =>
      obtain ⟨xs, p, hm, hd, _⟩ := inv_dictRef I fh ha re (uni_refs re un hk)
      cases r with
      | @tup b vs ds hq hr =>
        cases ry
        have kk := hk_of ek
        have isk : (nestedKind X.prog X.w).is s.heap k b := ⟨Rep.nested I fh (.tup l) (.tup hq hr) kk.1 rfl, kk.2⟩
        obtain ⟨p', e1, e2⟩ := (ER.get (k := k) p).1 vv g1
        exact wpAny_getItem_heap hu8 isk hm e1 ⟨vv, H, I.tok _, e2, q vv g2⟩
    | int i =>
      obtain ⟨xs, p, hm, hd, _⟩ := inv_dictInt I ha re (uni_ints re un hk)
      cases r
      obtain ⟨t, rfl⟩ := ry
      have ei : k = .num i := by
        have := (hk_of ek).1
        simp [D.key] at this
        exact this.symm
      subst ei
      obtain ⟨p', e1, e2⟩ := (IR.get (k := i) p).1 vv g1
      exact wpAny_getItem_of (knd := PySem.intKind X.prog X.w) (k := i) (by simp [PySem.intKind, Value.isInt]) hm.mapOf e1 ⟨vv, H, I.tok _, e2, q vv g2⟩
    | _ => cases kvs with
      | nil => cases hk
      | cons p kvs => (obtain ⟨p1, p2⟩ := p; cases p1 <;> cases hk)
  unfold subscriptTail
  refine wpAny_bind ?_
  rw [getitemInPython_of_ne hT.not_modules]
  refine wpAny_bind (wpAny_specialOf hT PySem.F.slot_dict_getitem.lookup ?_)
  have fin : wpAny (model X.prog X.w) X.A (subscripted slice false (.ref a) u) (fun r s₃ => wpAny (model X.prog X.w) X.A (letTemporaryGo value (.ref a) r >>= fun _ => pure r) (EP X pins σ Q) X.xe s₃) X.xe s := by
    rw [hsl]
    exact wpAny_operating (wpAny_mono main (fun r s₃ h₃ => wpAny_bind (wpAny_letTemporaryGo (wpAny_pure h₃))) fun _ _ x => x)
  first
    | exact wpAny_pure (wpAny_bind fin)
    | exact wpAny_bind (wpAny_pure (wpAny_bind fin))
    | exact wpAny_bind fin
theorem ops_ix : OpS X.w X.K (fun x y H Q => rIxL X.K x y H Q ∨ rIxT X.K x y H Q ∨ rIxN X.w X.K x y H Q) ixF := by
  intro ra HK F e σ H x y d i z Q R hx hy hz q
  cases d with
  | lst l =>
    cases i with
    | int i =>
      obtain ⟨a, vs, rfl, h1, h2⟩ := hx.lst R.fh
      obtain ⟨v, e1, e2⟩ := atI_rep h2 hz
      exact .inl ⟨a, vs, i, v, rfl, hy.int_, .of h1, e1, q v F H (Same.refl F) R e2⟩
    | _ => cases hz
  | tup l =>
    cases i with
    | int i =>
      obtain ⟨a, vs, rfl, h1, h2⟩ := hx.tup R.fh
      obtain ⟨v, e1, e2⟩ := atI_rep h2 hz
      exact .inr (.inl ⟨a, vs, i, v, rfl, hy.int_, h1, e1, q v F H (Same.refl F) R e2⟩)
    | _ => cases hz
  | dct kvs =>
    simp only [ixF] at hz
    by_cases k : (kindOk kvs i && i.hk.isSome) = true
    · rw [if_pos k] at hz
      obtain ⟨k1, k2⟩ := Bool.and_eq_true_iff.mp k
      obtain ⟨a, es, da⟩ := hx.dat R.fh
      refine .inr (.inr ⟨ra, F, a, es, kvs, i, z, da, ?_, k1, k2, hz, fun v r => q v F H (Same.refl F) R r⟩)
      cases hy with
      | val r => exact r
      | @own a o _ _ _ => cases o <;> (cases kvs with
        | nil => cases k1
        | cons p kvs => (obtain ⟨p1, p2⟩ := p; cases p1 <;> cases k1))
    · rw [if_neg k] at hz
      cases hz
  | _ => cases hz
variable {W : WX} {a b : Expr} {ma mb : M Ref} {pos : Pos}
theorem pm_ix (hu : X.A.units + 64 < cLine) (ha : PMR X W a ma) (hb : PMR X W b mb) (hs : PlainIx b := by exact fun _ _ => rfl) : PM X W (.Subscript a b pos) (op2M ma mb ixF) :=
  PE.weaken (pe_ix (ix_list.or (ix_tup.or (ix_dict hu))) ha hb hs) fun _ _ _ h => op_read ops_ix h

/-! ### slices -/
def TP : RT (Option Int) (Option Int) := fun _ _ _ _ _ _ _ _ b b' => b = b'
def PMP (X : Cx) (W : WX) (e : Option Expr) (m : M (Option Int)) : Prop := PO X e (tG TP X.w X.K W m)
def partM (m : M D) : M (Option Int) := bindM m fun d => match d with
  | .int i => pureM (some i)
  | _ => errM
theorem PO.weaken {e : Option Expr} {t t' : L2.TO} (h : PO X e t) (k : ∀ σ H Q, t' σ H Q → t σ H Q) : PO X e t' := ⟨fun pins s σ H Q I hw => h.run pins s σ H Q I (k σ H Q hw)⟩
theorem pmp_none : PMP X W none (pureM none) := PO.weaken po_none fun σ H Q h => by
  obtain ⟨ra, HK, F, e, R, h⟩ := h
  exact h none F H (Same.refl F) R rfl
theorem pmp_some {e : Expr} {m : M D} (h : PM X W e m) : PMP X W (some e) (partM m) := by
  refine PO.weaken (po_some h) ?_
  rintro σ H Q ⟨ra, HK, F, e, R, hw⟩
  unfold partM at hw
  refine stepG R hw fun F1 e1 d v H1 s1 R1 r1 q1 => ?_
  cases d with
  | int i =>
    cases r1
    exact ⟨i, rfl, q1 _ F1 H1 (Same.refl F1) R1 rfl⟩
  | _ => exact q1.elim
/-- the items of x[lo:hi] -/
def cutD (xs : List D) (lo hi : Option Int) : List D := (xs.drop (HT.sIx xs.length 0 lo)).take (HT.sIx xs.length xs.length hi - HT.sIx xs.length 0 lo)
def cutF (d : D) (lo hi : Option Int) : Option D := match d with
  | .tup l => some (.tup (cutD l lo hi))
  | .lst l => some (.lst (cutD l lo hi))
  | _ => none
def sliceM (m : M Ref) (ml mh : M (Option Int)) : M D := bindM m fun x => bindM ml fun lo => bindM mh fun hi => bindM (derefM x) fun d => liftO (cutF d lo hi)
theorem cut_rep {w : World} {K : PySem.W.Frag} {ra : Addr} {F : Hp} {vs : List V} {ds : List D} (r : RepA w K ra F vs ds) (lo hi : Option Int) : RepA w K ra F (cutV vs lo hi) (cutD ds lo hi) := by
  unfold cutV cutD
  rw [r.length]
  exact (r.drop _).take _
theorem cut_whole {ds : List D} {lo hi : Option Int} (h : HT.sIx ds.length 0 lo = 0 ∧ HT.sIx ds.length ds.length hi = ds.length) : cutD ds lo hi = ds := by
  unfold cutD
  rw [h.1, h.2]
  simp
theorem pm_slice {lo hi : Option Expr} {p2 : Pos} {ml mh : M (Option Int)} (ha : PMR X W a ma) (hl : PMP X W lo ml) (hh : PMP X W hi mh) : PM X W (.Subscript a (.Slice lo hi none p2) pos) (sliceM ma ml mh) := by
  refine PE.weaken (pe_slice (SlR.or sl_tupA sl_list) ha hl hh) ?_
  rintro σ H Q ⟨ra, HK, F, e, R, hw⟩
  unfold sliceM at hw
  refine stepG R hw fun F1 e1 x v H1 s1 R1 r1 q1 => ?_
  refine stepG R1 q1 fun F2 e2 l l' H2 s2 R2 r2 q2 => ?_
  refine stepG R2 q2 fun F3 e3 h h' H3 s3 R3 r3 q3 => ?_
  have r2' : l' = l := r2
  have r3' : h' = h := r3
  subst r2' r3'
  have r1' : TR X.w X.K ra HK σ e3 F3 H3 v x := by
    cases x with
    | val d => exact Rep.mono (s2.trans s3) r1
    | slot i => exact r1
  obtain ⟨d, hd, q4, _⟩ := R3.deref r1' q3
  cases d with
  | tup ds =>
    obtain ⟨b, vs, rfl, h1, h2⟩ := hd.tup R3.fh
    refine .inl ⟨b, vs, rfl, h1, fun c => ?_, fun c p hp => ?_⟩
    · rw [h2.length] at c
      have q5 : okG TV X.w X.K ra HK F3 σ Q (D.tup (cutD ds l' h')) e3 := q4
      rw [cut_whole c] at q5
      exact q5 _ F3 H3 (Same.refl F3) R3 hd.rep_tup
    · obtain ⟨R4, s4⟩ := R3.alloc hp (.tup (cutV vs l' h'))
      exact q4 _ _ _ s4 R4 (.tup (.of upd_same) (RepA.mono s4 (cut_rep h2 l' h')))
  | lst ds =>
    obtain ⟨b, vs, rfl, h1, h2⟩ := hd.lst R3.fh
    refine .inr ⟨b, vs, rfl, .of h1, fun p hp => ?_⟩
    obtain ⟨R4, s4⟩ := R3.alloc hp (.lst (cutV vs l' h'))
    exact q4 _ _ _ s4 R4 (.lst upd_same (RepA.mono s4 (cut_rep h2 l' h')))
  | _ => exact q4.elim

/-! ### built-ins of one argument -/
def op1M (ma : M Ref) (f : D → Option D) : M D := bindM ma fun x => bindM (derefM x) fun d => liftO (f d)
def C1S (w : World) (K : PySem.W.Frag) (r : List V → Hp → VK → Prop) (f : D → Option D) : Prop :=
  ∀ (ra : Addr) (HK : Kp) (F : Hp) (e : Env) (σ : St) (H : Hp) (x : V) (d z : D) (Q : VK), Rel w K ra HK F e σ H → Held w K ra F H x d → f d = some z → okG TV w K ra HK F σ Q z e → r [x] H Q
theorem one_read {r : List V → Hp → VK → Prop} {f : D → Option D} (hs : C1S X.w X.K r f) {σ : St} {H : Hp} {Q : VK} (h : tG TV X.w X.K W (op1M ma f) σ H Q) : tCB r (tCons (tG TR X.w X.K W ma) tNil) σ H Q := by
  obtain ⟨ra, HK, F, e, R, hw⟩ := h
  unfold op1M at hw
  refine stepG R hw fun F1 e1 x v H1 s1 R1 r1 q1 => ?_
  obtain ⟨d, hd, q2, _⟩ := R1.deref r1 q1
  unfold liftO at q2
  cases ez : f d with
  | none =>
    rw [ez] at q2
    exact q2.elim
  | some z =>
    rw [ez] at q2
    exact hs ra HK F1 e1 σ H1 v d z Q R1 hd ez q2
theorem pm_call1 {x : Str} {id : String} {p : Pos} {r : List V → Hp → VK → Prop} {f : D → Option D} (hc : CallR X (.builtin id) r) (hs : C1S X.w X.K r f) (hm : X.mg x = none) (hv : bootBuiltins x = some (.builtin id)) (ha : PMR X W a ma) (hg : Gl X x := by rfl)
    (hn : x ≠ "__name__" := by decide) (hdb : (x == ("__debug__" : Str)) = false := by decide) (hse : starEach [a] X.env = (false, eval a X.env) :: starEach [] X.env := by rfl) : PM X W (.Call (.Name x p) [a] [] pos) (op1M ma f) :=
  PE.weaken (pe_callB hc hg hm hv (pa_cons ha pa_nil hse) hn hdb hse rfl) fun _ _ _ h => one_read hs h
theorem pm_callT1 {x : Str} {T : String} {p : Pos} {r : List V → Hp → VK → Prop} {f : D → Option D} (hc : CallR X (.type T) r) (hs : C1S X.w X.K r f) (hm : X.mg x = none) (hv : bootBuiltins x = some (.type T)) (ha : PMR X W a ma) (hg : Gl X x := by rfl)
    (hn : x ≠ "__name__" := by decide) (hdb : (x == ("__debug__" : Str)) = false := by decide) (hse : starEach [a] X.env = (false, eval a X.env) :: starEach [] X.env := by rfl) : PM X W (.Call (.Name x p) [a] [] pos) (op1M ma f) :=
  PE.weaken (pe_callTy hc hg hm hv (pa_cons ha pa_nil hse) hn hdb hse rfl) fun _ _ _ h => one_read hs h
/-- len -/
def lenF (d : D) : Option D := match d with
  | .lst l => some (.int l.length)
  | .tup l => some (.int l.length)
  | .dct l => some (.int l.length)
  | _ => none
def rLenN (w : World) (K : PySem.W.Frag) : List V → Hp → VK → Prop := fun xs H Q => ∃ ra F a es kvs y, xs = [y] ∧ DAt w K ra F H y a es kvs ∧ Q (.int kvs.length) H
theorem call_lenN : CallR X (.builtin "len") (rLenN X.w X.K) := by
  intro pins s σ H xs us Q I r h
  obtain ⟨ra, F, a, es, kvs, y, rfl, ⟨rfl, fh, ha, re⟩, q⟩ := h
  obtain ⟨u, rfl, rx⟩ := vals1 r
  cases rx
  have l63 := line63
  rw [← re.length] at q
  rcases (inv_dictP I ha).2.2.2.1 with un | un
  · obtain ⟨xs, p, hm, hd, hz⟩ := inv_dictRef I fh ha re un
    have hl : es.length = xs.length := Paired.length p
    exact call_len_dictH hd hm (by omega) ⟨.int es.length, H, I.tok _, ⟨_, by rw [hl]⟩, q⟩
  · obtain ⟨xs, p, hm, hd, hz⟩ := inv_dictInt I ha re un
    have hl : es.length = xs.length := Paired.length p
    exact call_len_dict hd hm (by omega) ⟨.int es.length, H, I.tok _, ⟨_, by rw [hl]⟩, q⟩
theorem CallR.or' {f : Value} {r r' : List V → Hp → VK → Prop} (h : CallR X f r) (h' : CallR X f r') : CallR X f (fun xs H Q => r xs H Q ∨ r' xs H Q) := by
  intro pins s σ H xs us Q I rv q
  rcases q with q | q
  · exact h pins s σ H xs us Q I rv q
  · exact h' pins s σ H xs us Q I rv q
theorem c1s_len : C1S X.w X.K (fun xs H Q => (∃ p ys, xs = [.ref p] ∧ (SqL X.K H p ys ∨ SqT X.K H p ys) ∧ Q (.int ys.length) H) ∨ rLenN X.w X.K xs H Q) lenF := by
  intro ra HK F e σ H x d z Q R hx hz q
  cases d with
  | lst l =>
    cases hz
    obtain ⟨a, vs, rfl, h1, h2⟩ := hx.lst R.fh
    exact .inl ⟨a, vs, rfl, .inl (.of h1), by rw [h2.length]; exact q _ F H (Same.refl F) R (.int _)⟩
  | tup l =>
    cases hz
    obtain ⟨a, vs, rfl, h1, h2⟩ := hx.tup R.fh
    exact .inl ⟨a, vs, rfl, .inr h1, by rw [h2.length]; exact q _ F H (Same.refl F) R (.int _)⟩
  | dct l =>
    cases hz
    obtain ⟨a, es, da⟩ := hx.dat R.fh
    exact .inr ⟨ra, F, a, es, l, x, rfl, da, q _ F H (Same.refl F) R (.int _)⟩
  | _ => cases hz
theorem pm_len {p : Pos} (hm : X.mg "len" = none) (ha : PMR X W a ma) (hg : Gl X "len" := by rfl) (hse : starEach [a] X.env = (false, eval a X.env) :: starEach [] X.env := by rfl) : PM X W (.Call (.Name "len" p) [a] [] pos) (op1M ma lenF) :=
  pm_call1 (CallR.or' call_len_seq call_lenN) c1s_len hm PySem.boot_len ha hg (by decide) (by decide) hse
/-- int(n), int(flag) -/
def toIntF (d : D) : Option D := match d with
  | .int i => some (.int i)
  | .bl b => some (.int (if b then 1 else 0))
  | _ => none
theorem c1s_int : C1S X.w X.K (fun xs H Q => (∃ i, xs = [.int i] ∧ Q (.int i) H) ∨ ∃ k, xs = [.bl k] ∧ Q (.int (if k then 1 else 0)) H) toIntF := by
  intro ra HK F e σ H x d z Q R hx hz q
  cases d with
  | int i =>
    cases hz
    exact .inl ⟨i, by rw [hx.int_], q _ F H (Same.refl F) R (.int _)⟩
  | bl b =>
    cases hz
    exact .inr ⟨b, by rw [hx.bl_], q _ F H (Same.refl F) R (.int _)⟩
  | _ => cases hz
theorem pm_toInt {p : Pos} (hm : X.mg "int" = none) (ha : PMR X W a ma) (hg : Gl X "int" := by rfl) (hse : starEach [a] X.env = (false, eval a X.env) :: starEach [] X.env := by rfl) : PM X W (.Call (.Name "int" p) [a] [] pos) (op1M ma toIntF) :=
  pm_callT1 call_int1 c1s_int hm boot_int ha hg (by decide) (by decide) hse
/-- tuple(list), tuple(tuple) -/
def tupleF (d : D) : Option D := match d with
  | .lst l => some (.tup l)
  | .tup l => some (.tup l)
  | _ => none
def rTup (K : PySem.W.Frag) : List V → Hp → VK → Prop := fun vs H Q => ∃ x, vs = [x] ∧ kTup K x H Q
theorem call_tup : CallR X (.type "tuple") (rTup X.K) := by
  intro pins s σ H xs us Q I r h
  obtain ⟨x, rfl, h⟩ := h
  obtain ⟨u, rfl, rx⟩ := vals1 r
  exact rl_tuple pins s σ H x u Q I rx h
end
end Mi

set_option Elab.async false
set_option linter.all false
set_option maxRecDepth 100000
set_option maxHeartbeats 4000000
/-! Mi, part I: tuple, list, isinstance, is, and, or, not, if, chains, attributes. -/
namespace Mi
open PySem PySem.Spec PyProof.Rows L2
section
variable {X : Cx} {W : WX} {a b c : Expr} {ma mb : M Ref} {pos : Pos}
theorem c1s_tup : C1S X.w X.K (rTup X.K) tupleF := by
  intro ra HK F e σ H x d z Q R hx hz q
  cases d with
  | lst l =>
    cases hz
    obtain ⟨a, vs, rfl, h1, h2⟩ := hx.lst R.fh
    refine ⟨_, rfl, .inl ⟨a, vs, rfl, .of h1, fun p hp => ?_⟩⟩
    obtain ⟨R2, s2⟩ := R.alloc hp (.tup vs)
    exact q _ _ _ s2 R2 (.tup (.of upd_same) (RepA.mono s2 h2))
  | tup l =>
    cases hz
    obtain ⟨a, vs, rfl, h1, h2⟩ := hx.tup R.fh
    exact ⟨_, rfl, .inr ⟨a, vs, rfl, h1, q _ F H (Same.refl F) R hx.rep_tup⟩⟩
  | _ => cases hz
theorem pm_tupleOf {p : Pos} (hm : X.mg "tuple" = none) (hv : bootBuiltins "tuple" = some (.type "tuple")) (ha : PMR X W a ma) (hg : Gl X "tuple" := by rfl) (hse : starEach [a] X.env = (false, eval a X.env) :: starEach [] X.env := by rfl) : PM X W (.Call (.Name "tuple" p) [a] [] pos) (op1M ma tupleF) :=
  pm_callT1 call_tup c1s_tup hm hv ha hg (by decide) (by decide) hse
/-- list(list), list(tuple): a new one -/
def listO (d : D) : Option OD := match d with
  | .lst l => some (.lst l)
  | .tup l => some (.lst l)
  | _ => none
def op1O (ma : M Ref) (f : D → Option OD) : M OD := bindM ma fun x => bindM (derefM x) fun d => liftO (f d)
/-! ### isinstance -/
def D.ty : D → Option String
  | .non => some "NoneType"
  | .bl _ => some "bool"
  | .int _ => some "int"
  | .str _ => some "str"
  | .lst _ => some "list"
  | .tup _ => some "tuple"
  | .dct _ => some "dict"
  | .obj _ => none
  | .row => none
/-- isinstance(x, T), T a built-in -/
def isiF (T : String) (d : D) : Option D := match d with
  | .obj _ => some (.bl false)
  | d => (d.ty.bind fun t => kitB t T).map D.bl
/-- what is asked of the class Rule for isinstance -/
structure RuleIs (K : PySem.W.Frag) : Prop where
  cl : Cls K (He.ga K "Rule")
  ha : PySem.W.findIn K (.ref (He.ga K "Rule")) "__class__" = some (some (.builtin "object.__class__"))
  hn : PySem.W.specialIn K (.builtin "object.__class__") "__get__" = some (some (.builtin "getset_descriptor.__get__"))
  htk : PySem.W.takesIn K (.builtin "object.__class__") = some true
  hm : PySem.W.mroIn K (He.ga K "Rule") (.type "object") = some true
theorem Held.tyd {w : World} {K : PySem.W.Frag} {ra : Addr} {F H : Hp} (fh : Same F H) {v : V} {d : D} {t : String} (h : Held w K ra F H v d) (ht : d.ty = some t) (hd : ∀ l, d ≠ .dct l) : TyX K H v (.type t) := by
  cases d with
  | non =>
    cases ht
    generalize e : D.non = d at h
    cases h with
    | val r =>
      subst e
      cases r
      exact .base .non
    | @own a o _ _ _ => cases o <;> cases e
  | bl b =>
    cases ht
    rw [h.bl_]
    exact .base (.bl b)
  | int b =>
    cases ht
    rw [h.int_]
    exact .base (.int b)
  | str b =>
    cases ht
    rw [h.str_]
    exact .base (.str b)
  | lst l =>
    cases ht
    obtain ⟨a, vs, rfl, h1, h2⟩ := h.lst fh
    exact .base (.lst h1)
  | tup l =>
    cases ht
    obtain ⟨a, vs, rfl, h1, h2⟩ := h.tup fh
    rcases h1 with (h1 | ⟨o, h1⟩) | ⟨o, its, n, hk, hc, _⟩
    · exact .base (.tup h1)
    · exact .fTuple h1
    · exact .kTuple hk hc
  | dct l => exact absurd rfl (hd l)
  | _ => cases ht
/-- isinstance(x, c) for a dict -/
def rIsiD (w : World) (K : PySem.W.Frag) : List V → Hp → VK → Prop := fun xs H Q => ∃ (a : Addr) (es : List (NestedKey × V × V)) (c : V) (u : Value) (b : Bool), xs = [.ref a, c] ∧ ClsV c u ∧ DictAt w H a es ∧ PySem.W.kitOne K (.type "dict") u = some b ∧ Q (.bl b) H
theorem call_isiD : CallR X (.builtin "isinstance") (rIsiD X.w X.K) := by
  intro pins s σ H xs us Q I r h
  obtain ⟨a, es, c, u, b, rfl, k, ha, e, q⟩ := h
  obtain ⟨u1, u2, rfl, r1, r2⟩ := vals2 r
  have e2 := k.eq r2
  subst e2
  cases r1
  obtain ⟨_, _, _, _, o, _, _, ho, hc, _⟩ := inv_dictP I ha
  exact PySem.W.kia_one PySem.W.kitx_dict I.kIn ⟨o, ho, hc.1⟩ e (fun z => nomatch z) fun tk => ⟨.bl b, H, I.tok tk, rfl, q⟩
theorem isi_read {cv : V} {u : Value} {f : D → Option D} (k : ClsV cv u) (hf : ∀ d z, f d = some z → (∃ t b, d.ty = some t ∧ PySem.W.kitOne X.K (.type t) u = some b ∧ z = .bl b) ∨ (∃ l b, d = .obj l ∧ PySem.W.kitOne X.K (.ref (He.ga X.K "Rule")) u = some b ∧ z = .bl b)) (RI : RuleIs X.K)
    {σ : St} {H : Hp} {Q : VK} (h : tG TV X.w X.K W (op1M ma f) σ H Q) : tCB (fun xs H Q => rIsi X.K xs H Q ∨ rIsiD X.w X.K xs H Q) (tCons (tG TR X.w X.K W ma) (tCons (tC cv) tNil)) σ H Q := by
  obtain ⟨ra, HK, F, e, R, hw⟩ := h
  unfold op1M at hw
  refine stepG R hw fun F1 e1 x v H1 s1 R1 r1 q1 => ?_
  obtain ⟨d, hd, q2, _⟩ := R1.deref r1 q1
  unfold liftO at q2
  cases ez : f d with
  | none =>
    rw [ez] at q2
    exact q2.elim
  | some z =>
    rw [ez] at q2
    rcases hf d z ez with ⟨t, b, h1, h2, rfl⟩ | ⟨l, b, rfl, h2, rfl⟩
    · by_cases hdc : ∃ l, d = .dct l
      · obtain ⟨l, rfl⟩ := hdc
        cases h1
        obtain ⟨a, es, da⟩ := hd.dat R1.fh
        obtain ⟨rfl, _, ha, _⟩ := da
        exact .inr ⟨a, es, cv, u, b, rfl, k, ha, h2, q2 _ F1 H1 (Same.refl F1) R1 (.bl _)⟩
      · exact .inl ⟨v, cv, .type t, u, b, rfl, k, hd.tyd R1.fh h1 (fun l z => hdc ⟨l, z⟩), h2, q2 _ F1 H1 (Same.refl F1) R1 (.bl _)⟩
    · obtain ⟨a, dx, fs, rfl, ha⟩ : ∃ a dx fs, v = .ref a ∧ H1 a = some (.ins (He.ga X.K "Rule") dx fs) := by
        generalize e : D.obj l = d at hd
        cases hd with
        | val r =>
          subst e
          cases r with
          | obj h3 _ _ => exact ⟨_, _, _, rfl, R1.fh _ _ h3⟩
        | @own a o _ _ _ => cases o <;> cases e
      exact .inl ⟨_, cv, _, u, b, rfl, k, .base (.ins ha RI.cl RI.ha RI.hn RI.htk RI.hm), h2, q2 _ F1 H1 (Same.refl F1) R1 (.bl _)⟩
theorem call_isi2 : CallR X (.builtin "isinstance") (fun xs H Q => rIsi X.K xs H Q ∨ rIsiD X.w X.K xs H Q) := CallR.or' call_isi call_isiD
/-- isinstance(x, T) -/
theorem pm_isi {T : Str} {n : String} {p p2 : Pos} (hm : X.mg "isinstance" = none) (hv : bootBuiltins "isinstance" = some (.builtin "isinstance")) (hmT : X.mg T = none) (hvT : bootBuiltins T = some (.type n)) (RI : RuleIs X.K) (ho : PySem.W.kitOne X.K (.ref (He.ga X.K "Rule")) (.type n) = some false)
    (ha : PMR X W a ma) (hg : Gl X "isinstance" := by rfl) (hgT : Gl X T := by rfl) (hn : T ≠ "__name__" := by decide) (hd : (T == ("__debug__" : Str)) = false := by decide)
    (hse : starEach [a, .Name T p2] X.env = (false, eval a X.env) :: starEach [.Name T p2] X.env := by rfl) : PM X W (.Call (.Name "isinstance" p) [a, .Name T p2] [] pos) (op1M ma (isiF n)) := by
  refine PE.weaken (pe_callB call_isi2 hg hm hv (pa_cons ha (pa_cons (pe_bltn (v := .ty n) hgT hmT hvT rfl hn hd) pa_nil rfl) hse) (by decide) (by decide) hse rfl) fun σ H Q h => isi_read (.ty n) (fun d z e => ?_) RI h
  by_cases k : ∃ l, d = .obj l
  · obtain ⟨l, rfl⟩ := k
    cases e
    exact .inr ⟨l, false, rfl, ho, rfl⟩
  · have e2 : (d.ty.bind fun t => kitB t n).map D.bl = some z := by
      cases d with
      | obj l => exact absurd ⟨l, rfl⟩ k
      | _ => exact e
    cases ht : d.ty with
    | none =>
      rw [ht] at e2
      cases e2
    | some t =>
      rw [ht] at e2
      have e3 : (kitB t n).map D.bl = some z := e2
      cases hk : kitB t n with
      | none =>
        rw [hk] at e3
        cases e3
      | some b =>
        rw [hk] at e3
        cases e3
        exact .inl ⟨t, b, rfl, kit_ty hk, rfl⟩
/-- isinstance(x, Rule) -/
def isRuleF (d : D) : Option D := match d with
  | .obj _ => some (.bl true)
  | .row => none
  | _ => some (.bl false)
theorem pm_isRule {p p2 : Pos} (hm : X.mg "isinstance" = none) (hv : bootBuiltins "isinstance" = some (.builtin "isinstance")) (hmT : X.mg "Rule" = some (.ref (He.ga X.K "Rule"))) (RI : RuleIs X.K) (ho : PySem.W.kitOne X.K (.ref (He.ga X.K "Rule")) (.ref (He.ga X.K "Rule")) = some true)
    (hf : ∀ t ∈ ["NoneType", "bool", "int", "str", "list", "tuple", "dict"], PySem.W.kitOne X.K (.type t) (.ref (He.ga X.K "Rule")) = some false)
    (ha : PMR X W a ma) (hg : Gl X "isinstance" := by rfl) (hgT : Gl X "Rule" := by rfl)
    (hse : starEach [a, .Name "Rule" p2] X.env = (false, eval a X.env) :: starEach [.Name "Rule" p2] X.env := by rfl) : PM X W (.Call (.Name "isinstance" p) [a, .Name "Rule" p2] [] pos) (op1M ma isRuleF) := by
  refine PE.weaken (pe_callB call_isi2 hg hm hv (pa_cons ha (pa_cons (pe_glob (v := .ref _) hgT hmT rfl (by decide)) pa_nil rfl) hse) (by decide) (by decide) hse rfl) fun σ H Q h => isi_read (.own _) (fun d z e => ?_) RI h
  cases d with
  | obj l =>
    cases e
    exact .inr ⟨l, true, rfl, ho, rfl⟩
  | row => cases e
  | _ =>
    cases e
    exact .inl ⟨_, false, rfl, hf _ (by simp), rfl⟩

/-! ### is None -/
def D.isN : D → Bool
  | .non => true
  | _ => false
def isNF (d : D) : Option D := some (.bl d.isN)
def notNF (d : D) : Option D := some (.bl (!d.isN))
theorem Held.non_iff {w : World} {K : PySem.W.Frag} {ra : Addr} {F H : Hp} {v : V} {d : D} (h : Held w K ra F H v d) : decide (v = .non) = d.isN := by
  cases h with
  | val r => cases r <;> rfl
  | @own a o _ _ _ => cases o <;> rfl
theorem isn_read {r : V → Hp → VK → Prop} {f : D → Option D} {te : TE} (hs : ∀ (ra : Addr) (HK : Kp) (F : Hp) (e : Env) (σ : St) (H : Hp) (x : V) (d z : D) (Q : VK), Rel X.w X.K ra HK F e σ H → Held X.w X.K ra F H x d → f d = some z → okG TV X.w X.K ra HK F σ Q z e → r x H Q)
    {σ : St} {H : Hp} {Q : VK} (h : tG TV X.w X.K W (op1M ma f) σ H Q) : tG TR X.w X.K W ma σ H fun x H1 => r x H1 Q := by
  obtain ⟨ra, HK, F, e, R, hw⟩ := h
  unfold op1M at hw
  refine stepG R hw fun F1 e1 x v H1 s1 R1 r1 q1 => ?_
  obtain ⟨d, hd, q2, _⟩ := R1.deref r1 q1
  unfold liftO at q2
  cases ez : f d with
  | none =>
    rw [ez] at q2
    exact q2.elim
  | some z =>
    rw [ez] at q2
    exact hs ra HK F1 e1 σ H1 v d z Q R1 hd ez q2
theorem isN_read {σ : St} {H : Hp} {Q : VK} (h : tG TV X.w X.K W (op1M ma isNF) σ H Q) : tIsN (tG TR X.w X.K W ma) σ H Q :=
  isn_read (te := fun _ _ _ => False) (r := fun x H1 Q => Q (.bl (decide (x = .non))) H1) (fun ra HK F e σ H x d z Q R hd ez q => by
    cases ez
    show Q _ H
    rw [hd.non_iff]
    exact q _ F H (Same.refl F) R (.bl _)) h
theorem notN_read {σ : St} {H : Hp} {Q : VK} (h : tG TV X.w X.K W (op1M ma notNF) σ H Q) : tNotN (tG TR X.w X.K W ma) σ H Q :=
  isn_read (te := fun _ _ _ => False) (r := fun x H1 Q => Q (.bl (!decide (x = .non))) H1) (fun ra HK F e σ H x d z Q R hd ez q => by
    cases ez
    show Q _ H
    rw [hd.non_iff]
    exact q _ F H (Same.refl F) R (.bl _)) h
theorem pmt_isN {j p2} (ha : PMR X W a ma) : PMT X W (.Compare a [.Is] [.Constant .none j p2] pos) (testM (op1M ma isNF)) := PT.weaken (pt_cmp (pc_isN ha) rfl) fun σ H Q h => by
  obtain ⟨ra, HK, F, e, R, h3⟩ := test_read h
  exact isN_read ⟨ra, HK, F, e, R, h3⟩
theorem pmt_notN {j p2} (ha : PMR X W a ma) : PMT X W (.Compare a [.IsNot] [.Constant .none j p2] pos) (testM (op1M ma notNF)) := PT.weaken (pt_cmp (pc_notN ha) rfl) fun σ H Q h => by
  obtain ⟨ra, HK, F, e, R, h3⟩ := test_read h
  exact notN_read ⟨ra, HK, F, e, R, h3⟩

/-! ### and, or, not, if -/
variable {rest : List Expr}
def andT (m n : M Bool) : M Bool := bindM m fun c => if c = true then n else pureM false
def orT (m n : M Bool) : M Bool := bindM m fun c => if c = true then pureM true else n
def notT (m : M Bool) : M Bool := bindM m fun c => pureM (!c)
theorem pmw_and1 {m : M Bool} (ha : PMT X W a m) : PMW X W (.BoolOp .And [a] pos) m := pw_and1 ha
theorem pmw_or1 {m : M Bool} (ha : PMT X W a m) : PMW X W (.BoolOp .Or [a] pos) m := pw_or1 ha
theorem pmw_and {m n : M Bool} (ha : PMT X W a m) (hb : PMW X W (.BoolOp .And (b :: rest) pos) n) : PMW X W (.BoolOp .And (a :: b :: rest) pos) (andT m n) := by
  refine PW.weaken (pw_and ha hb) ?_
  rintro σ H Q ⟨ra, HK, F, e, R, hw⟩
  unfold andT at hw
  refine stepG R hw fun F1 e1 x v H1 s1 R1 r1 q1 => ?_
  cases (show v = x from r1)
  cases x with
  | true => exact iteT (last R1 q1)
  | false => exact iteF (q1 _ F1 H1 (Same.refl F1) R1 rfl)
theorem pmw_or {m n : M Bool} (ha : PMT X W a m) (hb : PMW X W (.BoolOp .Or (b :: rest) pos) n) : PMW X W (.BoolOp .Or (a :: b :: rest) pos) (orT m n) := by
  refine PW.weaken (pw_or ha hb) ?_
  rintro σ H Q ⟨ra, HK, F, e, R, hw⟩
  unfold orT at hw
  refine stepG R hw fun F1 e1 x v H1 s1 R1 r1 q1 => ?_
  cases (show v = x from r1)
  cases x with
  | true => exact iteT (q1 _ F1 H1 (Same.refl F1) R1 rfl)
  | false => exact iteF (last R1 q1)
theorem pmt_w {e : Expr} {m : M Bool} (h : PMW X W e m) : PMT X W e m := PW.pt h
theorem pmt_not {m : M Bool} (ha : PMT X W a m) : PMT X W (.UnaryOp .Not a pos) (notT m) := by
  refine PT.weaken (pt_not ha) ?_
  rintro σ H Q ⟨ra, HK, F, e, R, hw⟩
  unfold notT at hw
  refine stepG R hw fun F1 e1 x v H1 s1 R1 r1 q1 => ?_
  cases (show v = x from r1)
  exact q1 _ F1 H1 (Same.refl F1) R1 rfl
/-- as values -/
def andV (m n : M D) : M D := bindM m fun d => match d with
  | .bl c => if c = true then n else pureM (.bl false)
  | _ => errM
def orV (m n : M D) : M D := bindM m fun d => match d with
  | .bl c => if c = true then pureM (.bl true) else n
  | _ => errM
def notV (m : M D) : M D := bindM m fun d => match d with
  | .bl c => pureM (.bl (!c))
  | _ => errM
theorem pm_one {op} {m : M D} (h : PM X W a m) : PM X W (.BoolOp op [a] pos) m := pe_one h
theorem pm_and {m n : M D} (ha : PM X W a m) (hb : PM X W (.BoolOp .And (b :: rest) pos) n) : PM X W (.BoolOp .And (a :: b :: rest) pos) (andV m n) := by
  refine PE.weaken (pe_and ha hb) ?_
  rintro σ H Q ⟨ra, HK, F, e, R, hw⟩
  unfold andV at hw
  refine stepG R hw fun F1 e1 x v H1 s1 R1 r1 q1 => ?_
  cases x with
  | bl c =>
    cases r1
    refine ⟨c, rfl, ?_⟩
    cases c with
    | true => exact iteT (last R1 q1)
    | false => exact iteF (q1 _ F1 H1 (Same.refl F1) R1 (.bl _))
  | _ => exact q1.elim
theorem pm_or {m n : M D} (ha : PM X W a m) (hb : PM X W (.BoolOp .Or (b :: rest) pos) n) : PM X W (.BoolOp .Or (a :: b :: rest) pos) (orV m n) := by
  refine PE.weaken (pe_or ha hb) ?_
  rintro σ H Q ⟨ra, HK, F, e, R, hw⟩
  unfold orV at hw
  refine stepG R hw fun F1 e1 x v H1 s1 R1 r1 q1 => ?_
  cases x with
  | bl c =>
    cases r1
    refine ⟨c, rfl, ?_⟩
    cases c with
    | true => exact iteT (q1 _ F1 H1 (Same.refl F1) R1 (.bl _))
    | false => exact iteF (last R1 q1)
  | _ => exact q1.elim
theorem pm_not {m : M D} (ha : PM X W a m) : PM X W (.UnaryOp .Not a pos) (notV m) := by
  refine PE.weaken (pe_not ha) ?_
  rintro σ H Q ⟨ra, HK, F, e, R, hw⟩
  unfold notV at hw
  refine stepG R hw fun F1 e1 x v H1 s1 R1 r1 q1 => ?_
  cases x with
  | bl c =>
    cases r1
    exact ⟨c, rfl, q1 _ F1 H1 (Same.refl F1) R1 (.bl _)⟩
  | _ => exact q1.elim
def iteM {α : Type} (t : M Bool) (m n : M α) : M α := bindM t fun c => if c = true then m else n
theorem pm_ifExp {t : M Bool} {m n : M D} (hc : PMT X W c t) (ha : PM X W a m) (hb : PM X W b n) : PM X W (.IfExp c a b pos) (iteM t m n) := by
  refine PE.weaken (pe_ifExp hc ha hb) ?_
  rintro σ H Q ⟨ra, HK, F, e, R, hw⟩
  unfold iteM at hw
  refine stepG R hw fun F1 e1 x v H1 s1 R1 r1 q1 => ?_
  cases (show v = x from r1)
  cases x with
  | true => exact iteT (last R1 q1)
  | false => exact iteF (last R1 q1)
/-- a op b op' c, of numbers -/
def chainM (o o' : Int → Int → Bool) (m n k : M D) : M D := bindM m fun x => bindM n fun y => match x, y with
  | .int i, .int j => if o i j = true then bindM k fun z => (match z with
    | .int l => pureM (.bl (o' j l))
    | _ => errM) else pureM (.bl false)
  | _, _ => errM
theorem pm_chain {op op' : CmpOp} {o o' : Int → Int → Bool} {m n k : M D} (ho : OpR X (compareOp op) (rI0 fun i j => .bl (o i j))) (ho' : OpR X (compareOp op') (rI0 fun i j => .bl (o' i j))) (ha : PM X W a m) (hb : PM X W b n) (hc : PM X W c k)
    (hm : lastMarks [op, op'] [b, c] = false := by with_unfolding_all rfl) : PM X W (.Compare a [op, op'] [b, c] pos) (chainM o o' m n k) := by
  refine PE.weaken (pe_chain ho ho' ha hb hc hm) ?_
  rintro σ H Q ⟨ra, HK, F, e, R, hw⟩
  unfold chainM at hw
  refine stepG R hw fun F1 e1 x v H1 s1 R1 r1 q1 => ?_
  refine stepG R1 q1 fun F2 e2 y u H2 s2 R2 r2 q2 => ?_
  cases x with
  | int i =>
    cases y with
    | int j =>
      cases r1
      cases r2
      refine ⟨i, j, rfl, rfl, o i j, rfl, ?_⟩
      simp only at q2
      cases hc : o i j with
      | true =>
        rw [hc, if_pos rfl] at q2
        refine iteT (stepG R2 q2 fun F3 e3 z w' H3 s3 R3 r3 q3 => ?_)
        cases z with
        | int l =>
          cases r3
          exact ⟨j, l, rfl, rfl, q3 _ F3 H3 (Same.refl F3) R3 (.bl _)⟩
        | _ => exact q3.elim
      | false =>
        rw [hc, if_neg Bool.false_ne_true] at q2
        exact iteF (q2 _ F2 H2 (Same.refl F2) R2 (.bl _))
    | _ => exact q2.elim
  | _ => exact q2.elim

/-! ### the fields of a Rule -/
def fldF (n : Nat) (d : D) : Option D := match d with
  | .obj l => l[n]?
  | _ => none
theorem rule_lookup {f : Str} {n : Nat} (h : (["many", "wide", "rows", "low", "high"] : List Str)[n]? = some f) : ∀ {vs : List V} {v : V}, vs.length = 5 → vs[n]? = some v → (ruleF vs).lookup f = some v := by
  intro vs v hl hv
  match vs, hl with
  | [v0, v1, v2, v3, v4], _ =>
    match n, h with
    | 0, h => cases h; cases hv; rfl
    | 1, h => cases h; cases hv; rfl
    | 2, h => cases h; cases hv; rfl
    | 3, h => cases h; cases hv; rfl
    | 4, h => cases h; cases hv; rfl
theorem pm_fld {f : Str} (n : Nat) (cl : Cls X.K (He.ga X.K "Rule")) (na : NoAttr X.K (He.ga X.K "Rule") f) (h5 : (["many", "wide", "rows", "low", "high"] : List Str)[n]? = some f) (ha : PMR X W a ma) (hb : attributeBase a f X.env (eval a X.env) = eval a X.env := by rfl) : PM X W (.Attribute a f pos) (op1M ma (fldF n)) := by
  refine PE.weaken (pe_fld ha hb) fun σ H Q h => ?_
  refine isn_read (te := fun _ _ _ => False) (r := fun x H1 Q => ∃ a C dx fs v, x = .ref a ∧ H1 a = some (.ins C dx fs) ∧ Cls X.K C ∧ NoAttr X.K C f ∧ fs.lookup f = some v ∧ Q v H1) (fun ra HK F e σ H x d z Q R hd ez q => ?_) h
  cases d with
  | obj l =>
    have ez' : l[n]? = some z := ez
    generalize e : D.obj l = d at hd
    cases hd with
    | val r =>
      subst e
      cases r with
      | @obj a dx vs ds h1 h2 h3 =>
        obtain ⟨v, g1, g2⟩ := h3.get ez'
        exact ⟨_, _, _, _, v, rfl, R.fh _ _ h1, cl, na, rule_lookup h5 h2 g1, q v F H (Same.refl F) R g2⟩
    | @own a o _ _ _ => cases o <;> cases e
  | _ => cases ez
end
end Mi

set_option Elab.async false
set_option linter.all false
set_option maxRecDepth 100000
set_option maxHeartbeats 4000000
/-! Mi, part J: statements, targets, while. -/
namespace Mi
open PySem PySem.Spec PyProof.Rows L2
def setM (i : Nat) (s : Slot) : M Unit := fun e => if i < e.sl.length then .ok () { e with sl := e.sl.set i s } else .err
inductive Fl where
  | nx | rt (d : D) | bk | ct
section
variable {w : World} {K : PySem.W.Frag} {ra : Addr} {HK : Kp} {F H : Hp} {e : Env} {σ : St}
theorem wp_setM {β : Type} {i : Nat} {s : Slot} {g : Unit → M β} {A : β → Env → Prop} {B : Exn → Env → Prop} (h : (bindM (setM i s) g e).wp A B) : i < e.sl.length ∧ (g () { e with sl := e.sl.set i s }).wp A B := by
  unfold bindM setM at h
  by_cases c : i < e.sl.length
  · simp only [if_pos c] at h
    exact ⟨c, h⟩
  · simp only [if_neg c] at h
    exact h.elim
theorem Rel.setVal (R : Rel w K ra HK F e σ H) {i : Nat} (hi : i < e.sl.length) {v : V} {d : D} (r : Rep w K ra F v d) : Rel w K ra HK F { e with sl := e.sl.set i (.val d) } (σ.set i (some v)) H := by
  have hi' : i < σ.length := by rw [← R.len]; exact hi
  refine ⟨R.fh, R.kh, by rw [List.length_set, List.length_set]; exact R.len, fun j s hj => ?_, R.sep.off rfl _, R.row, R.fra, R.kra, R.pn⟩
  by_cases hj2 : i = j
  · subst hj2
    rw [List.getElem?_set_self hi] at hj
    cases hj
    exact ⟨v, by rw [List.getElem?_set_self hi'], r⟩
  · rw [List.getElem?_set_ne hj2] at hj
    rw [List.getElem?_set_ne hj2]
    exact R.sl j s hj
/-- a name gets a container of its own -/
theorem Rel.setC (R : Rel w K ra HK F e σ H) {i : Nat} (hi : i < e.sl.length) {s : Slot} {a : Addr} (ok : SlotOk w K ra HK F H (some (some (.ref a))) s) (n : ∀ p, Foot H s a p → NotIn e σ H p) : Rel w K ra HK F { e with sl := e.sl.set i s } (σ.set i (some (.ref a))) H := by
  have hi' : i < σ.length := by rw [← R.len]; exact hi
  refine ⟨R.fh, R.kh, by rw [List.length_set, List.length_set]; exact R.len, fun j t hj => ?_, R.sep.on hi' fun j s' a' p hij h c hs f => n p f j s' a' h c hs, R.row, R.fra, R.kra, R.pn⟩
  by_cases hj2 : i = j
  · subst hj2
    rw [List.getElem?_set_self hi] at hj
    cases hj
    rw [List.getElem?_set_self hi']
    exact ok
  · rw [List.getElem?_set_ne hj2] at hj
    rw [List.getElem?_set_ne hj2]
    exact R.sl j t hj
theorem Rel.setOwn (R : Rel w K ra HK F e σ H) {i : Nat} (hi : i < e.sl.length) {v : V} {o : OD} (t : TO w K ra HK σ e F H v o) : Rel w K ra HK F { e with sl := e.sl.set i (.own o) } (σ.set i (some v)) H := by
  obtain ⟨a, rfl, r, fa, ka, na, nd⟩ := t
  refine R.setC hi ⟨a, rfl, r, fa, ka, na⟩ fun p f => ?_
  rcases f with rfl | ⟨z, _⟩
  · exact nd
  · cases z
theorem Rel.setNo (R : Rel w K ra HK F e σ H) (i : Nat) (ov : Option V) : Rel w K ra HK F { e with sl := e.sl.set i .no } (σ.set i ov) H := by
  refine ⟨R.fh, R.kh, by rw [List.length_set, List.length_set]; exact R.len, fun j s hj => ?_, R.sep.off rfl _, R.row, R.fra, R.kra, R.pn⟩
  by_cases hj2 : i = j
  · subst hj2
    by_cases hi : i < e.sl.length
    · rw [List.getElem?_set_self hi] at hj
      cases hj
      trivial
    · rw [List.getElem?_eq_none (by rw [List.length_set]; omega)] at hj
      cases hj
  · rw [List.getElem?_set_ne hj2] at hj
    rw [List.getElem?_set_ne hj2]
    exact R.sl j s hj
end
/-! ### the judgement of statements -/
def okS (w : World) (K : PySem.W.Frag) (ra : Addr) (HK : Kp) (F : Hp) (D' : Ends) : Fl → Env → Prop := fun fl e' => ∀ σ' F' H', Same F F' → Rel w K ra HK F' e' σ' H' → (match fl with
  | .nx => D'.nx σ' H'
  | .bk => D'.bk σ' H'
  | .ct => D'.ct σ' H'
  | .rt d => ∀ v, Rep w K ra F' v d → D'.rt v H')
def tS (w : World) (K : PySem.W.Frag) (W : WX) (m : M Fl) : TS := fun D' σ H => ∃ ra HK F e, Rel w K ra HK F e σ H ∧ (m e).wp (okS w K ra HK F D') (exW w K ra HK F W)
theorem okS_mono {w : World} {K : PySem.W.Frag} {ra : Addr} {HK : Kp} {F F1 : Hp} {D' : Ends} (s : Same F F1) {fl : Fl} {e' : Env} (h : okS w K ra HK F D' fl e') : okS w K ra HK F1 D' fl e' := fun σ' F' H' s' => h σ' F' H' (s.trans s')
def PSM (X : Cx) (W : WX) (st : Stmt) (m : M Fl) : Prop := PS X st (tS X.w X.K W m)
def PSsM (X : Cx) (W : WX) (st : List Stmt) (m : M Fl) : Prop := PSs X st (tS X.w X.K W m)
theorem stepS {β α : Type} {T : RT β α} {w : World} {K : PySem.W.Frag} {ra : Addr} {HK : Kp} {F H : Hp} {W : WX} {e : Env} {σ : St} {m : M α} {g : α → M Fl} {D' : Ends} {Q : β → Hp → Prop} (R : Rel w K ra HK F e σ H)
    (h : (bindM m g e).wp (okS w K ra HK F D') (exW w K ra HK F W))
    (k : ∀ F' e' a b H', Same F F' → Rel w K ra HK F' e' σ H' → T w K ra HK σ e' F' H' b a → (g a e').wp (okS w K ra HK F' D') (exW w K ra HK F' W) → Q b H') : tG T w K W m σ H Q :=
  step (A := fun F => okS w K ra HK F D') R h (fun F' c e' s q => okS_mono s q) k
section
variable {X : Cx} {W : WX} {st : Stmt} {rest : List Stmt} {m n : M Fl} {e : Expr} {pos : Pos}
/-! ### blocks -/
def nxM : M Fl := pureM .nx
def seqM (m n : M Fl) : M Fl := bindM m fun fl => match fl with
  | .nx => n
  | fl => pureM fl
theorem pssm_nil : PSsM X W [] nxM := PSs.weaken pss_nil fun D' σ H h => by
  obtain ⟨ra, HK, F, e, R, h⟩ := h
  exact h σ F H (Same.refl F) R
theorem pssm_one (h : PSM X W st m) : PSsM X W [st] m := pss_one h
theorem pssm_cons (h1 : PSM X W st m) (h2 : PSsM X W rest n) : PSsM X W (st :: rest) (seqM m n) := by
  refine PSs.weaken (pss_cons h1 h2) ?_
  rintro D' σ H ⟨ra, HK, F, e, R, h⟩
  unfold seqM at h
  refine ⟨ra, HK, F, e, R, wp_mono (wp_bind.mp h) (fun fl e' q σ' F' H' s R' => ?_) fun _ _ q => q⟩
  cases fl with
  | nx => exact ⟨ra, HK, F', e', R', wp_mono q (fun _ _ z => okS_mono s z) fun _ _ z => exW_mono s z⟩
  | bk => exact q σ' F' H' s R'
  | ct => exact q σ' F' H' s R'
  | rt d => exact q σ' F' H' s R'
def retM (m : M D) : M Fl := bindM m fun d => pureM (.rt d)
theorem psm_ret {m : M D} (h : PM X W e m) : PSM X W (.Return (some e) pos) (retM m) := by
  refine PS.weaken (ps_ret h) ?_
  rintro D' σ H ⟨ra, HK, F, e, R, h⟩
  unfold retM at h
  refine stepS R h fun F1 e1 d v H1 s1 R1 r1 q1 => ?_
  exact q1 σ F1 H1 (Same.refl F1) R1 v r1
def dropM {α : Type} (m : M α) : M Fl := bindM m fun _ => pureM .nx
theorem psm_expr {m : M D} (h : PM X W e m) (hs : swapsWith e none pos.line X.env = pure false := by rfl) : PSM X W (.Expr e pos) (dropM m) := by
  refine PS.weaken (ps_expr h hs) ?_
  rintro D' σ H ⟨ra, HK, F, e, R, h⟩
  unfold dropM at h
  refine stepS R h fun F1 e1 d v H1 s1 R1 r1 q1 => ?_
  exact q1 σ F1 H1 (Same.refl F1) R1
theorem psm_if {c : Expr} {a b : List Stmt} {t : M Bool} {m n : M Fl} (hc : PMT X W c t) (ha : PSsM X W a m) (hb : PSsM X W b n) : PSM X W (.If c a b pos) (iteM t m n) := by
  refine PS.weaken (ps_if hc ha hb) ?_
  rintro D' σ H ⟨ra, HK, F, e, R, h⟩
  unfold iteM at h
  refine stepS R h fun F1 e1 x v H1 s1 R1 r1 q1 => ?_
  cases (show v = x from r1)
  cases x with
  | true =>
    rw [if_pos rfl] at q1
    exact iteT ⟨ra, HK, F1, e1, R1, q1⟩
  | false =>
    rw [if_neg Bool.false_ne_true] at q1
    exact iteF ⟨ra, HK, F1, e1, R1, q1⟩
/-! ### x = e -/
def asgM (i : Nat) (m : M D) : M Fl := bindM m fun d => bindM (setM i (.val d)) fun _ => pureM .nx
def asgO (i : Nat) (m : M OD) : M Fl := bindM m fun o => bindM (setM i (.own o)) fun _ => pureM .nx
theorem psm_set (i : Nat) {x : Str} {m : M D} {pos' : Pos} (he : PM X W e m) (hN : X.N.Nodup) (hi : X.N[i]? = some x := by rfl) (hx : Loc X.env.scope x := by first | exact Or.inl rfl | exact Or.inr rfl) (hs : swapsWith e (some (.Name x pos')) pos.line X.env = pure false := by rfl)
    (hf : X.fn x = true ∨ X.env.scope.names.lookup x = some .local := by first | exact .inl rfl | exact .inr rfl | assumption) : PSM X W (.Assign [.Name x pos'] e pos) (asgM i m) := by
  refine PS.weaken (ps_set hN hi hx he hs hf) ?_
  rintro D' σ H ⟨ra, HK, F, e, R, h⟩
  unfold asgM at h
  refine stepS R h fun F1 e1 d v H1 s1 R1 r1 q1 => ?_
  obtain ⟨h1, q2⟩ := wp_setM q1
  exact q2 _ F1 H1 (Same.refl F1) (R1.setVal h1 r1)
theorem psm_setO (i : Nat) {x : Str} {m : M OD} {pos' : Pos} (he : PMO X W e m) (hN : X.N.Nodup) (hi : X.N[i]? = some x := by rfl) (hx : Loc X.env.scope x := by first | exact Or.inl rfl | exact Or.inr rfl) (hs : swapsWith e (some (.Name x pos')) pos.line X.env = pure false := by rfl)
    (hf : X.fn x = true ∨ X.env.scope.names.lookup x = some .local := by first | exact .inl rfl | exact .inr rfl | assumption) : PSM X W (.Assign [.Name x pos'] e pos) (asgO i m) := by
  refine PS.weaken (ps_set hN hi hx he hs hf) ?_
  rintro D' σ H ⟨ra, HK, F, e, R, h⟩
  unfold asgO at h
  refine stepS R h fun F1 e1 d v H1 s1 R1 r1 q1 => ?_
  obtain ⟨h1, q2⟩ := wp_setM q1
  exact q2 _ F1 H1 (Same.refl F1) (R1.setOwn h1 r1)
/-! ### targets -/
/-- the names but these stand -/
def SB (is : List Nat) (σ σ' : St) : Prop := σ'.length = σ.length ∧ ∀ j, j ∉ is → σ'[j]? = σ[j]?
theorem SB.refl (σ : St) : SB [] σ σ := ⟨rfl, fun _ _ => rfl⟩
theorem SB.trans {is js : List Nat} {σ σ1 σ2 : St} (a : SB is σ σ1) (b : SB js σ1 σ2) : SB (is ++ js) σ σ2 := ⟨b.1.trans a.1, fun j h => by
  rw [List.mem_append, not_or] at h
  exact (b.2 j h.2).trans (a.2 j h.1)⟩
theorem SB.wiped {is : List Nat} {σ σ' : St} (h : SB is σ σ') {vs : List Nat} (hs : ∀ i ∈ is, i ∈ vs) : wipe σ' vs = wipe σ vs := by
  apply List.ext_getElem?
  intro j
  by_cases c : j ∈ vs
  · have key : ∀ (τ : St) (us : List Nat), j ∈ us → (wipe τ us)[j]? = if j < τ.length then some none else none := by
      intro τ us
      induction us with
      | nil => intro h; cases h
      | cons u us ih =>
        intro hj
        unfold L2.wipe
        by_cases e : u = j
        · subst e
          by_cases l : u < τ.length
          · rw [if_pos l, List.getElem?_set_self (by rw [wipe_length]; exact l)]
          · rw [if_neg l, List.getElem?_eq_none (by rw [List.length_set, wipe_length]; omega)]
        · rw [List.getElem?_set_ne e]
          exact ih (by
            rcases List.mem_cons.mp hj with z | z
            · exact absurd z.symm e
            · exact z)
    rw [key _ _ c, key _ _ c, h.1]
  · rw [wipe_out c, wipe_out c]
    exact h.2 j fun z => c (hs j z)
def tT (w : World) (K : PySem.W.Frag) (is : List Nat) (g : D → M Unit) : TG := fun v σ H Q => ∃ ra HK F e d, Rel w K ra HK F e σ H ∧ Rep w K ra F v d ∧ (g d e).wp (fun _ e' => ∀ σ' F' H', SB is σ σ' → Same F F' → Rel w K ra HK F' e' σ' H' → Q σ' H') (fun _ _ => False)
def tTs (w : World) (K : PySem.W.Frag) (is : List Nat) (g : List D → M Unit) : TGs := fun v σ H Q => ∃ ra HK F e d, Rel w K ra HK F e σ H ∧ RepA w K ra F v d ∧ (g d e).wp (fun _ e' => ∀ σ' F' H', SB is σ σ' → Same F F' → Rel w K ra HK F' e' σ' H' → Q σ' H') (fun _ _ => False)
def PGM (X : Cx) (tg : Expr) (is : List Nat) (g : D → M Unit) : Prop := PG X tg (tT X.w X.K is g)
def PGsM (X : Cx) (tg : List Expr) (is : List Nat) (g : List D → M Unit) : Prop := PGs X tg (tTs X.w X.K is g)
theorem PG.weaken {tg : Expr} {t t' : TG} (h : PG X tg t) (k : ∀ v σ H Q, t' v σ H Q → t v σ H Q) : PG X tg t' := ⟨fun pins s σ H v u Q I r hw => h.run pins s σ H v u Q I r (k _ _ _ _ hw)⟩
theorem PGs.weaken {tg : List Expr} {t t' : TGs} (h : PGs X tg t) (k : ∀ v σ H Q, t' v σ H Q → t v σ H Q) : PGs X tg t' := ⟨fun pins s σ H v u Q I r hw => h.run pins s σ H v u Q I r (k _ _ _ _ hw)⟩
theorem PG.or {tg : Expr} {t t' : TG} (h : PG X tg t) (h' : PG X tg t') : PG X tg (fun v σ H Q => t v σ H Q ∨ t' v σ H Q) := ⟨fun pins s σ H v u Q I r hw => by
  rcases hw with hw | hw
  · exact h.run pins s σ H v u Q I r hw
  · exact h'.run pins s σ H v u Q I r hw⟩
def gN (i : Nat) (d : D) : M Unit := setM i (.val d)
theorem pgm_name (i : Nat) {x : Str} (hN : X.N.Nodup) (hi : X.N[i]? = some x := by rfl) (hx : Loc X.env.scope x := by first | exact Or.inl rfl | exact Or.inr rfl) (hf : X.fn x = true ∨ X.env.scope.names.lookup x = some .local := by first | exact .inl rfl | exact .inr rfl | assumption) : PGM X (.Name x pos) [i] (gN i) := by
  refine PG.weaken (pg_name hN hi hx hf) ?_
  rintro v σ H Q ⟨ra, HK, F, e, d, R, r, h⟩
  unfold gN setM at h
  by_cases c : i < e.sl.length
  · simp only [if_pos c] at h
    exact h _ F H ⟨List.length_set .., fun j hj => List.getElem?_set_ne fun z => hj (by simp [z])⟩ (Same.refl F) (R.setVal c r)
  · simp only [if_neg c] at h
    exact h.elim
def gsNil (l : List D) : M Unit := match l with
  | [] => pureM ()
  | _ => errM
def gsCons (g : D → M Unit) (gs : List D → M Unit) (l : List D) : M Unit := match l with
  | d :: ds => bindM (g d) fun _ => gs ds
  | [] => errM
theorem pgsm_nil : PGsM X [] [] gsNil := PGs.weaken pgs_nil fun v σ H Q h => by
  obtain ⟨ra, HK, F, e, d, R, r, h⟩ := h
  cases r with
  | nil => exact ⟨rfl, h σ F H (SB.refl σ) (Same.refl F) R⟩
  | cons _ _ => exact h.elim
theorem pgsm_cons {a : Expr} {es : List Expr} {is js : List Nat} {g : D → M Unit} {gs : List D → M Unit} (h1 : PGM X a is g) (h2 : PGsM X es js gs) (hs : (assignEach (a :: es) X.env).map (·.2) = assign a X.env :: (assignEach es X.env).map (·.2) := by rfl) : PGsM X (a :: es) (is ++ js) (gsCons g gs) := by
  refine PGs.weaken (pgs_cons h1 h2 hs) ?_
  rintro v σ H Q ⟨ra, HK, F, e, d, R, r, h⟩
  cases r with
  | nil => exact h.elim
  | @cons v d vs ds r1 r2 =>
    refine ⟨v, vs, rfl, ra, HK, F, e, d, R, r1, wp_mono (wp_bind.mp h) (fun _ e' q σ' F' H' b s R' => ?_) fun _ _ q => q⟩
    exact ⟨ra, HK, F', e', ds, R', RepA.mono s r2, wp_mono q (fun _ e2 z σ2 F2 H2 b2 s2 R2 => z σ2 F2 H2 (b.trans b2) (s.trans s2) R2) fun _ _ z => z⟩
def gTupM (n : Nat) (gs : List D → M Unit) (d : D) : M Unit := match d with
  | .tup l => if l.length = n then gs l else errM
  | .lst l => if l.length = n then gs l else errM
  | _ => errM
theorem pgm_tup {es : List Expr} {k : Nat} {n : Nat} {is : List Nat} {gs : List D → M Unit} (h : PGsM X es is gs) (hc : X.calm = true := by rfl) (hn : (assignEach es X.env).length = n := by rfl) (hst : (assignEach es X.env).findIdx? (·.1) = none := by rfl) : PGM X (.Tuple es k pos) is (gTupM n gs) := by
  refine PG.weaken (PG.or (pg_tup hc h hn hst) (pg_lst hc h hn hst)) ?_
  rintro v σ H Q ⟨ra, HK, F, e, d, R, r, h⟩
  cases d with
  | tup l =>
    simp only [gTupM] at h
    by_cases c : l.length = n
    · rw [if_pos c] at h
      cases r with
      | @tup a vs ds h1 h2 => exact .inl ⟨a, vs, rfl, Same.seqT R.fh h1, by rw [h2.length]; exact c, ra, HK, F, e, l, R, h2, h⟩
    · rw [if_neg c] at h
      exact h.elim
  | lst l =>
    simp only [gTupM] at h
    by_cases c : l.length = n
    · rw [if_pos c] at h
      cases r with
      | @lst a vs ds h1 h2 => exact .inr ⟨a, vs, rfl, .of (R.fh _ _ h1), by rw [h2.length]; exact c, ra, HK, F, e, l, R, h2, h⟩
    · rw [if_neg c] at h
      exact h.elim
  | _ => exact h.elim
def asgG (m : M D) (g : D → M Unit) : M Fl := bindM m fun d => bindM (g d) fun _ => pureM .nx
/-- target = e -/
theorem psm_asg {tg : Expr} {m : M D} {is : List Nat} {g : D → M Unit} (he : PM X W e m) (hg : PGM X tg is g) (hg0 : ∀ d e x e', g d e ≠ .exc x e') (hs : swapsWithSole [tg] e pos.line X.env = pure false := by rfl) (hw : swappedStores [tg] e X.env = pure none := by rfl)
    (h1 : (assignEach [tg] X.env).map (·.2) = [assign tg X.env] := by rfl) : PSM X W (.Assign [tg] e pos) (asgG m g) := by
  refine PS.weaken (ps_asg he hg hs hw h1) ?_
  rintro D' σ H ⟨ra, HK, F, e, R, h⟩
  unfold asgG at h
  refine stepS R h fun F1 e1 d v H1 s1 R1 r1 q1 => ?_
  refine ⟨ra, HK, F1, e1, d, R1, r1, ?_⟩
  have q2 := wp_bind.mp q1
  cases eg : g d e1 with
  | ok u e2 =>
    rw [eg] at q2
    exact fun σ' F' H' _ s R' => q2 σ' F' H' s R'
  | exc x e2 => exact absurd eg (hg0 _ _ _ _)
  | err =>
    rw [eg] at q2
    exact q2
theorem gN_quiet (i : Nat) : ∀ d e x e', gN i d e ≠ .exc x e' := fun d e x e' h => by
  unfold gN setM at h
  split at h <;> cases h
theorem gsNil_quiet : ∀ d e x e', gsNil d e ≠ .exc x e' := fun d e x e' h => by
  cases d <;> cases h
theorem gsCons_quiet {g : D → M Unit} {gs : List D → M Unit} (h1 : ∀ d e x e', g d e ≠ .exc x e') (h2 : ∀ d e x e', gs d e ≠ .exc x e') : ∀ d e x e', gsCons g gs d e ≠ .exc x e' := fun d e x e' h => by
  cases d with
  | nil => cases h
  | cons d ds =>
    unfold gsCons bindM at h
    simp only at h
    cases eg : g d e with
    | ok u e2 =>
      rw [eg] at h
      exact h2 _ _ _ _ h
    | exc y e2 => exact h1 _ _ _ _ eg
    | err =>
      rw [eg] at h
      cases h
theorem gTup_quiet {n : Nat} {gs : List D → M Unit} (h2 : ∀ d e x e', gs d e ≠ .exc x e') : ∀ d e x e', gTupM n gs d e ≠ .exc x e' := fun d e x e' h => by
  unfold gTupM at h
  cases d with
  | tup l =>
    simp only at h
    split at h
    · exact h2 _ _ _ _ h
    · cases h
  | lst l =>
    simp only at h
    split at h
    · exact h2 _ _ _ _ h
    · cases h
  | _ => cases h
/-! ### x += n -/
def valM (i : Nat) : M D := fun e => match e.sl[i]? with
  | some (.val d) => .ok d e
  | _ => .err
def augM (i : Nat) (m : M D) (f : D → D → Option D) : M Fl := bindM (valM i) fun x => bindM m fun d => bindM (liftO (f x d)) fun z => bindM (setM i (.val z)) fun _ => pureM .nx
end
end Mi

set_option Elab.async false
set_option linter.all false
set_option maxRecDepth 100000
set_option maxHeartbeats 4000000
/-! Mi, part K: while, for, what is walked. -/
namespace Mi
open PySem PySem.Spec PyProof.Rows L2
/-! ### while -/
section
variable {X : Cx} {W : WX} {pos : Pos}
/-! ### for -/
def forM' (g : D → M Unit) (b : M Fl) : List D → M Fl
  | [] => nxM
  | d :: ds => bindM (g d) fun _ => bindM b fun fl => match fl with
    | .nx => forM' g b ds
    | .ct => forM' g b ds
    | .bk => pureM .nx
    | .rt d => pureM (.rt d)
/-- what is walked: these things, one after another (a tuple may be made for each) -/
structure ItOk (w : World) (K : PySem.W.Frag) (ra : Addr) (F0 : Hp) (J : It) (ds : List D) : Prop where
  go : ∀ (i : Nat) (F H : Hp), Same F0 F → Same F H → i < ds.length → J.go i H
  stop : ∀ (i : Nat) (F H : Hp), Same F0 F → Same F H → i = ds.length → J.stop i H
  yld : ∀ (i : Nat) (F H : Hp) (x : V) (H' : Hp), Same F0 F → Same F H → i < ds.length → J.yld i H x H' → ∃ d, ds[i]? = some d ∧
    ((H' = H ∧ Rep w K ra F0 x d) ∨ ∃ p o, H p = none ∧ H' = upd H p o ∧ ∀ F1, Same F0 F1 → F1 p = some o → Rep w K ra F1 x d)
def tI (w : World) (K : PySem.W.Frag) (W : WX) (m : M (List D)) : TI := fun σ H Rr => ∃ ra HK F e, Rel w K ra HK F e σ H ∧
  (m e).wp (fun ds e' => ∀ J F' H', Same F F' → Rel w K ra HK F' e' σ H' → ItOk w K ra F' J ds → Rr J H') (exW w K ra HK F W)
def PIM (X : Cx) (W : WX) (tg iter : Expr) (m : M (List D)) : Prop := PI X tg iter (tI X.w X.K W m)
theorem PI.weaken {tg it : Expr} {t t' : TI} (h : PI X tg it t) (k : ∀ σ H Q, t' σ H Q → t σ H Q) : PI X tg it t' := ⟨fun pins s σ H Rr I hw => h.run pins s σ H Rr I (k _ _ _ hw)⟩
/-- a turn's value, as the mirror has it -/
theorem Rel.turn {w : World} {K : PySem.W.Frag} {ra : Addr} {HK : Kp} {F0 F H H' : Hp} {e : Env} {σ : St} {J : It} {ds : List D} (R : Rel w K ra HK F e σ H) (ok : ItOk w K ra F0 J ds) (s : Same F0 F) {i : Nat} (hi : i < ds.length) {x : V} (y : J.yld i H x H') :
    ∃ d F', ds[i]? = some d ∧ Same F F' ∧ Rel w K ra HK F' e σ H' ∧ Rep w K ra F' x d := by
  obtain ⟨d, hd, ⟨rfl, r⟩ | ⟨p, o, hp, rfl, k⟩⟩ := ok.yld i F H x H' s R.fh hi y
  · exact ⟨d, F, hd, Same.refl F, R, r.mono s⟩
  · obtain ⟨R2, s2⟩ := R.alloc hp o
    exact ⟨d, _, hd, s2, R2, k _ (s.trans s2) upd_same⟩
def forL (mi : M (List D)) (g : D → M Unit) (b : M Fl) : M Fl := bindM mi fun ds => forM' g b ds
theorem drop_cons {α : Type} {l : List α} {i : Nat} {a : α} (h : l[i]? = some a) : l.drop i = a :: l.drop (i + 1) := by
  obtain ⟨hi, e⟩ := List.getElem?_eq_some_iff.mp h
  rw [List.drop_eq_getElem_cons hi, e]
theorem psm_for {tg iter : Expr} {body : List Stmt} {mi : M (List D)} {is : List Nat} {g : D → M Unit} {b : M Fl} (hp : PassesOwn (model X.prog X.w) X.A X.env X.xe) (hc : X.calm = true) (hi : PIM X W tg iter mi) (hg : PGM X tg is g) (hg0 : ∀ d e x e', g d e ≠ .exc x e') (hb : PSsM X W body b)
    (hs : ∀ x, foldedSetIterable iter X.env x = pure x := by intro _; rfl) : PSM X W (.For tg iter body [] pos) (forL mi g b) := by
  refine PS.weaken (ps_for hp hc hi hg hb hs) ?_
  rintro D' σ H ⟨ra, HK, F, e, R, h⟩
  unfold forL at h
  refine ⟨ra, HK, F, e, R, wp_mono (wp_bind.mp h) (fun ds e' q J F0 H1 s R1 ok => ?_) fun _ _ q => q⟩
  refine ⟨fun i m σ H => m = ds.length - i ∧ i ≤ ds.length ∧ ∃ F e, Same F0 F ∧ Rel X.w X.K ra HK F e σ H ∧ (forM' g b (ds.drop i) e).wp (okS X.w X.K ra HK F D') (exW X.w X.K ra HK F W),
    ⟨ds.length, rfl, Nat.zero_le _, F0, e', Same.refl F0, R1, wp_mono q (fun _ _ z => okS_mono s z) fun _ _ z => exW_mono s z⟩, ?_⟩
  rintro i m σ2 H2 ⟨rfl, hil, F2, e2, s2, R2, h2⟩
  by_cases hlt : i < ds.length
  · refine .inr ⟨ok.go i F2 H2 s2 R2.fh hlt, fun σ' H' => ∃ F e, Same F0 F ∧ Rel X.w X.K ra HK F e σ' H' ∧ (forM' g b (ds.drop (i + 1)) e).wp (okS X.w X.K ra HK F D') (exW X.w X.K ra HK F W), fun σ' H' z => ⟨ds.length - (i + 1), by omega, rfl, hlt, z⟩, fun x H3 y => ?_⟩
    obtain ⟨d, F3, hd, s3, R3, r3⟩ := R2.turn ok s2 hlt y
    rw [drop_cons hd] at h2
    have h3 : (bindM (g d) (fun _ => bindM b fun fl => match fl with
      | .nx => forM' g b (ds.drop (i + 1))
      | .ct => forM' g b (ds.drop (i + 1))
      | .bk => pureM .nx
      | .rt d => pureM (.rt d)) e2).wp (okS X.w X.K ra HK F2 D') (exW X.w X.K ra HK F2 W) := h2
    have h4 := wp_bind.mp h3
    refine ⟨ra, HK, F3, e2, d, R3, r3, ?_⟩
    cases eg : g d e2 with
    | exc x e3 => exact absurd eg (hg0 _ _ _ _)
    | err =>
      rw [eg] at h4
      exact h4
    | ok u e3 =>
      rw [eg] at h4
      intro σ4 F4 H4 _ s4 R4
      refine ⟨ra, HK, F4, e3, R4, wp_mono (wp_bind.mp h4) (fun fl e5 q5 σ5 F5 H5 s5 R5 => ?_) fun _ _ q5 => exW_mono (s3.trans s4) q5⟩
      have st : Same F2 F5 := (s3.trans s4).trans s5
      cases fl with
      | nx => exact ⟨F5, e5, s2.trans st, R5, wp_mono q5 (fun _ _ z => okS_mono st z) fun _ _ z => exW_mono st z⟩
      | ct => exact ⟨F5, e5, s2.trans st, R5, wp_mono q5 (fun _ _ z => okS_mono st z) fun _ _ z => exW_mono st z⟩
      | bk => exact q5 σ5 F5 H5 st R5
      | rt d => exact q5 σ5 F5 H5 st R5
  · have e : i = ds.length := by omega
    subst e
    rw [List.drop_length] at h2
    exact .inl ⟨ok.stop _ F2 H2 s2 R2.fh rfl, h2 σ2 F2 H2 (Same.refl F2) R2⟩
/-! ### what is walked: lists, tuples -/
theorem itok_list {w : World} {K : PySem.W.Frag} {ra : Addr} {F : Hp} {a : Addr} {vs : List V} {ds : List D} (h : F a = some (.lst vs)) (r : RepA w K ra F vs ds) : ItOk w K ra F (Itl K a) ds where
  go := fun i F1 H s1 s2 hi => by
    obtain ⟨v, hv, _⟩ := r.get (List.getElem?_eq_getElem hi)
    exact ⟨vs, v, .of (s2 _ _ (s1 _ _ h)), hv⟩
  stop := fun i F1 H s1 s2 hi => ⟨vs, .of (s2 _ _ (s1 _ _ h)), by rw [r.length, hi]; exact Nat.le_refl _⟩
  yld := fun i F1 H x H' s1 s2 hi y => by
    obtain ⟨e, k⟩ := y
    have hx := k vs (.of (s2 _ _ (s1 _ _ h)))
    obtain ⟨d, hd, rd⟩ := r.get' hx
    exact ⟨d, hd, .inl ⟨e, rd⟩⟩
theorem itok_tup {w : World} {K : PySem.W.Frag} {ra : Addr} {F : Hp} {a : Addr} {vs : List V} {ds : List D} (h : SqT K F a vs) (r : RepA w K ra F vs ds) : ItOk w K ra F (Itt K a) ds where
  go := fun i F1 H s1 s2 hi => by
    obtain ⟨v, hv, _⟩ := r.get (List.getElem?_eq_getElem hi)
    exact ⟨vs, v, Same.seqT s2 (Same.seqT s1 h), hv⟩
  stop := fun i F1 H s1 s2 hi => ⟨vs, Same.seqT s2 (Same.seqT s1 h), by rw [r.length, hi]; exact Nat.le_refl _⟩
  yld := fun i F1 H x H' s1 s2 hi y => by
    obtain ⟨e, k⟩ := y
    have hx := k vs (Same.seqT s2 (Same.seqT s1 h))
    obtain ⟨d, hd, rd⟩ := r.get' hx
    exact ⟨d, hd, .inl ⟨e, rd⟩⟩
theorem PI.or {tg it : Expr} {t t' : TI} (h : PI X tg it t) (h' : PI X tg it t') : PI X tg it (fun σ H Q => t σ H Q ∨ t' σ H Q) := ⟨fun pins s σ H Rr I hw => by
  rcases hw with hw | hw
  · exact h.run pins s σ H Rr I hw
  · exact h'.run pins s σ H Rr I hw⟩
end
end Mi

set_option Elab.async false
set_option linter.all false
set_option maxRecDepth 100000
set_option maxHeartbeats 4000000
/-! Mi, part L: walks of dicts, enumerate, zip, range; the library's walks as turns. -/
namespace PySem
open Sem (wp)
open AutoSeq1 (wpAny_loadPart')
theorem meets_enumerate_newB1 {v : Value} {o : Obj} {H : Heap → Prop} (B : Begins v o H) :
    Meets (Builtin.«enumerate.__new__» ⟨[.type "enumerate", v], []⟩) (fun _ R s => H s.heap ∧
      R (.ok (.ret (.ref (s.heap.push o).objs.size))) { s with heap := (s.heap.push o).push { cls := .type "enumerate", data := .fields #[.none, .bool false, .ref s.heap.objs.size, rawInt 0, .none, .none] } }) :=
  .of_wp fun prog w A R s h => by
    obtain ⟨hp, g, d, tk, os⟩ := s; obtain ⟨h1, h⟩ := h
    have hsub := sub_enumerate
    have q1 : ∀ {A' : Around} {E : Value → Shared → Prop} {Q : Value → Shared → Prop}, Q (.ref hp.objs.size) ⟨hp.push o, g, d, tk, os⟩ → wpAny (model prog w) A' (pyIter v) Q E ⟨hp, g, d, tk, os⟩ :=
      fun q => B.iter prog w _ _ ⟨hp, g, d, tk, os⟩ _ h1 q
    wp_walk using q1
    refine wpAny_stack_any fun st => wpAny_pure ?_
    split
    · rename_i c _ _ _ _ _
      cases (c == Value.type "enumerate")
      · wp_walk using q1
        exact ⟨_, rfl, h⟩
      · wp_walk using q1
        exact ⟨_, rfl, h⟩
    · wp_walk using q1
      exact ⟨_, rfl, h⟩
theorem enum_begins1 {prog : Program} {w : World} {A : Around} {E : Value → Shared → Prop} {s : Shared} {v : Value} {o : Obj} {H : Heap → Prop} {Q : Value → Shared → Prop} (B : Begins v o H) (h1 : H s.heap)
    (h : ∀ h', IsEnum h' (s.heap.objs.size + 1) s.heap.objs.size 0 .none → h'.get? s.heap.objs.size = some o → h'.objs.size = s.heap.objs.size + 2 →
      (∀ b o, s.heap.get? b = some o → h'.get? b = some o) → Q (.ref (s.heap.objs.size + 1)) { s with heap := h' }) :
    wpAny (model prog w) A (call (.type "enumerate") [v]) Q E s := by
  refine callType_new F.called_enumerate (by decide) (F.typeCall_enumerate_1 _) (F.newCall_enumerate_1 _) (fun obj => F.args_object_init_2 obj _) F.entry_enumerate_new
    (meets_enumerate_newB1 B) ⟨h1, ?_⟩
  have hz : (s.heap.push o).objs.size = s.heap.objs.size + 1 := Heap.size_push ..
  show _ ∧ _
  rw [hz]
  have he : IsEnum ((s.heap.push o).push { cls := .type "enumerate", data := .fields #[.none, .bool false, .ref s.heap.objs.size, rawInt 0, .none, .none] }) (s.heap.objs.size + 1) s.heap.objs.size 0 .none := by
    have := Heap.get?_push_size (s.heap.push o) (o := { cls := .type "enumerate", data := .fields #[.none, .bool false, .ref s.heap.objs.size, rawInt 0, .none, .none] }) rfl
    rw [hz] at this; exact this
  refine ⟨⟨_, he, rfl⟩, h _ he (Heap.get?_push_of_some _ (Heap.get?_push_size _ B.free)) (by rw [Heap.size_push, hz]) fun b o x => Heap.get?_push_of_some _ (Heap.get?_push_of_some _ x)⟩
end PySem
namespace Mi
open PySem PySem.Spec PyProof.Rows L2

/-! ### the library's walks as turns -/
/-- things that stand: x i is yielded at turn i -/
def ItP (HS : Hp → Prop) (n : Nat) (x : Nat → V → Prop) : It := ⟨fun i H => HS H ∧ i < n, fun i H v H' => H' = H ∧ x i v, fun i H => HS H ∧ i = n⟩
/-- a new pair at each turn -/
def It2 (HS : Hp → Prop) (n : Nat) (p : Nat → V → V → Prop) : It := ⟨fun i H => HS H ∧ i < n, fun i H v H' => ∃ T v1 v2, v = .ref T ∧ H T = none ∧ H' = upd H T (.tup [v1, v2]) ∧ p i v1 v2, fun i H => HS H ∧ i = n⟩
section
variable {P : Program} {w : World} {K : PySem.W.Frag} {tg : Expr} {it : Addr} {fpT fp wr : List Addr} {n : Nat} {γ : Type} {sz : γ → Nat} {Y : γ → Nat → Heap → Value → Heap → Prop} {St : γ → Nat → Heap → Prop} {StI : Nat → Heap → Prop} {Src : γ → Heap → Prop} {HS : Hp → Prop}
theorem turn_plain {x : Nat → V → Prop} (hself : ∀ (A : Around) (i : Nat) (s : Shared) (Q : Value → Shared → Prop) (E : Value → Shared → Prop), StI i s.heap → Q (.ref it) s → wpAny (model P w) A (pyIter (.ref it)) Q E s) (hit : it ∈ fpT) (hsub : ∀ b ∈ wr, b ∈ fpT) (G : ∀ (A : Around) (c : γ), A.handled = none → GoesN P w A tg it fp wr (sz c) (Y c) (St c)) (hSt : ∀ c i h, St c i h ↔ StI i h ∧ Src c h)
    (hkeep : ∀ i h h', StI i h → (∀ b ∈ fpT, ∀ o, h.get? b = some o → h'.get? b = some o) → StI i h') (hobj : ∀ i h, StI i h → ∀ b ∈ fpT, ∃ o, h.get? b = some o ∧ ∀ v, o.data ≠ .cell v)
    (hsrc : ∀ (X : Cx), X.prog = P → X.w = w → X.K = K → ∀ (pins : List (Addr × Obj)) (s : Shared) (σ : L2.St) (H : Hp), Inv X pins σ H s → HS H → ∃ c, Src c s.heap ∧ sz c = n ∧ ∀ i v h', i < n → Y c i s.heap v h' → ∃ y, RelV y v ∧ x i y) :
    Turn P w K tg (ItP HS n x) fpT it StI where
  mem := hit
  obj := hobj
  keep := hkeep
  item := by
    intro X hP hw hK hc i pins s σ H E I hf st hg
    obtain ⟨hs, hi⟩ := hg
    obtain ⟨c, sc, ec, hy⟩ := hsrc X hP hw hK pins s σ H I hs
    subst hP hw hK
    refine (G X.A c (I.ok.hd hc)).goes i s (fun v s2 => ∃ x_1 H', Inv X pins σ H' s2 ∧ RelV x_1 v ∧ (ItP HS n x).yld i H x_1 H' ∧ StI (i + 1) s2.heap ∧ ∀ b ∈ fpT, H' b = none) E (by omega) ((hSt c i _).mpr ⟨st, sc⟩) fun v h' tk hY st' hk _ => ?_
    obtain ⟨y, ry, hx⟩ := hy i v h' hi hY
    refine ⟨y, H, I.turnedL (t' := tk) (ch := fpT) (fun b o hb e => hk b o (fun z => hb (hsub b z)) e) hf, ry, ⟨rfl, hx⟩, ((hSt c _ _).mp st').1, fun b hb => (hf b hb).1⟩
  done := by
    intro X hP hw hK hc i pins s σ H E I hf st hg
    obtain ⟨hs, hi⟩ := hg
    obtain ⟨c, sc, ec, hy⟩ := hsrc X hP hw hK pins s σ H I hs
    subst hP hw hK
    have e : i = sz c := by omega
    subst e
    exact (G X.A c (I.ok.hd hc)).stops s (fun s1 => Inv X pins σ H s1) E ((hSt c _ _).mpr ⟨st, sc⟩) fun h' tk hk _ => I.turnedL (t' := tk) (ch := fpT) (fun b o hb e => hk b o (fun z => hb (hsub b z)) e) hf
  self := hself
/-- a new pair at each turn -/
theorem turn_pairs {p : Nat → V → V → Prop} (hself : ∀ (A : Around) (i : Nat) (s : Shared) (Q : Value → Shared → Prop) (E : Value → Shared → Prop), StI i s.heap → Q (.ref it) s → wpAny (model P w) A (pyIter (.ref it)) Q E s) (hit : it ∈ fpT) (hsub : ∀ b ∈ wr, b ∈ fpT)
    (G : ∀ (A : Around) (c : γ), A.handled = none → GoesN P w A tg it fp wr (sz c) (Y c) (St c)) (hSt : ∀ c i h, St c i h ↔ StI i h ∧ Src c h)
    (hkeep : ∀ i h h', StI i h → (∀ b ∈ fpT, ∀ o, h.get? b = some o → h'.get? b = some o) → StI i h') (hobj : ∀ i h, StI i h → ∀ b ∈ fpT, ∃ o, h.get? b = some o ∧ ∀ v, o.data ≠ .cell v)
    (hsrc : ∀ (X : Cx), X.prog = P → X.w = w → X.K = K → ∀ (pins : List (Addr × Obj)) (s : Shared) (σ : L2.St) (H : Hp), Inv X pins σ H s → HS H → ∃ c, Src c s.heap ∧ sz c = n ∧
      ∀ i v h', i < n → Y c i s.heap v h' → ∃ T a b y1 y2, v = .ref T ∧ s.heap.objs.size ≤ T ∧ IsTup h' T #[a, b] ∧ RelV y1 a ∧ RelV y2 b ∧ p i y1 y2) :
    Turn P w K tg (It2 HS n p) fpT it StI where
  mem := hit
  obj := hobj
  keep := hkeep
  item := by
    intro X hP hw hK hc i pins s σ H E I hf st hg
    obtain ⟨hs, hi⟩ := hg
    obtain ⟨c, sc, ec, hy⟩ := hsrc X hP hw hK pins s σ H I hs
    subst hP hw hK
    refine (G X.A c (I.ok.hd hc)).goes i s (fun v s2 => ∃ x_1 H', Inv X pins σ H' s2 ∧ RelV x_1 v ∧ (It2 HS n p).yld i H x_1 H' ∧ StI (i + 1) s2.heap ∧ ∀ b ∈ fpT, H' b = none) E (by omega) ((hSt c i _).mpr ⟨st, sc⟩) fun v h' tk hY st' hk _ => ?_
    obtain ⟨T, a, b, y1, y2, rfl, hT, hTup, ra, rb, hp⟩ := hy i v h' hi hY
    have new : ObjOk X.prog X.w (upd H T (.tup [y1, y2])) h' T (.tup [y1, y2]) :=
      ⟨by show 2 ≤ sizeLine; decide, [a, b], .cons ra (.cons rb .nil), hTup⟩
    refine ⟨.ref T, _, I.turnedNew (t' := tk) (ch := fpT) (fun b o hb e => hk b o (fun z => hb (hsub b z)) e) hf hT new, rfl, ⟨T, y1, y2, rfl, I.hok.fresh hT, rfl, hp⟩, ((hSt c _ _).mp st').1, fun b hb => ?_⟩
    obtain ⟨o, e, _⟩ := hobj _ _ st b hb
    rw [upd_ne (Nat.ne_of_lt (Nat.lt_of_lt_of_le (Heap.lt_size e) hT))]
    exact (hf b hb).1
  done := by
    intro X hP hw hK hc i pins s σ H E I hf st hg
    obtain ⟨hs, hi⟩ := hg
    obtain ⟨c, sc, ec, hy⟩ := hsrc X hP hw hK pins s σ H I hs
    subst hP hw hK
    have e : i = sz c := by omega
    subst e
    exact (G X.A c (I.ok.hd hc)).stops s (fun s1 => Inv X pins σ H s1) E ((hSt c _ _).mpr ⟨st, sc⟩) fun h' tk hk _ => I.turnedL (t' := tk) (ch := fpT) (fun b o hb e => hk b o (fun z => hb (hsub b z)) e) hf
  self := hself
end
/-- what a walk of pairs gives the mirror -/
theorem itok_pairs {w : World} {K : PySem.W.Frag} {ra : Addr} {F : Hp} {HS : Hp → Prop} {n : Nat} {p : Nat → V → V → Prop} {ds : List D} (hn : ds.length = n) (hs : ∀ F1 H, Same F F1 → Same F1 H → HS H)
    (hp : ∀ i v1 v2, i < n → p i v1 v2 → ∃ d1 d2, ds[i]? = some (.tup [d1, d2]) ∧ Rep w K ra F v1 d1 ∧ Rep w K ra F v2 d2) : ItOk w K ra F (It2 HS n p) ds where
  go := fun i F1 H s1 s2 hi => ⟨hs _ _ s1 s2, by omega⟩
  stop := fun i F1 H s1 s2 hi => ⟨hs _ _ s1 s2, by omega⟩
  yld := fun i F1 H x H' s1 s2 hi y => by
    obtain ⟨T, v1, v2, rfl, hT, rfl, hpp⟩ := y
    obtain ⟨d1, d2, hd, r1, r2⟩ := hp i v1 v2 (by omega) hpp
    exact ⟨_, hd, .inr ⟨T, .tup [v1, v2], hT, rfl, fun F2 s3 e => .tup (.of e) (.cons (r1.mono s3) (.cons (r2.mono s3) .nil))⟩⟩
theorem itok_plain {w : World} {K : PySem.W.Frag} {ra : Addr} {F : Hp} {HS : Hp → Prop} {n : Nat} {p : Nat → V → Prop} {ds : List D} (hn : ds.length = n) (hs : ∀ F1 H, Same F F1 → Same F1 H → HS H)
    (hp : ∀ i v, i < n → p i v → ∃ d, ds[i]? = some d ∧ Rep w K ra F v d) : ItOk w K ra F (ItP HS n p) ds where
  go := fun i F1 H s1 s2 hi => ⟨hs _ _ s1 s2, by omega⟩
  stop := fun i F1 H s1 s2 hi => ⟨hs _ _ s1 s2, by omega⟩
  yld := fun i F1 H x H' s1 s2 hi y => by
    obtain ⟨rfl, hpp⟩ := y
    obtain ⟨d, hd, r⟩ := hp i x (by omega) hpp
    exact ⟨d, hd, .inl ⟨rfl, r⟩⟩

/-! ### enumerate(tuple) -/
def enumP (vs : List V) (i : Nat) (v1 v2 : V) : Prop := v1 = .int (i : Int) ∧ vs[i]? = some v2
theorem turn_enumT {P : Program} {w : World} {K : PySem.W.Frag} {elts : List Expr} {kk : Nat} {tpos : Pos} (t e it : Addr) (vs : List V) (hne : e ≠ it) (het : e ≠ t) (hti : t ≠ it) :
    Turn P w K (.Tuple elts kk tpos) (It2 (fun H => SqT K H t vs) vs.length (enumP vs)) [e, it] e (fun i h => (∃ old, IsEnum h e it ((i : Nat) : Int) old) ∧ h.IsTupleIter it t i) := by
  refine turn_pairs (γ := Array Value) (sz := fun its => its.size) (fp := [e, it, t]) (wr := [e, it]) (St := fun its i h => (∃ old, IsEnum h e it (0 + (i : Int)) old) ∧ (h.IsTupleIter it t i ∧ h.IsTuple t its))
    (Src := fun its h => h.IsTuple t its) (fun A i s Q E st h => let ⟨⟨_, he⟩, _⟩ := st; wpAny_pyIter_enum he h) (by simp) (fun b hb => hb)
    (fun A its hh => GoesN.enumFrom 0 (Draws.tuple (show A.in1.handled = none from hh) it t hti its) e hne (by simp [hne, het]) (by simp))
    (fun c i h => by
      have e1 : (0 : Int) + (i : Int) = i := by omega
      rw [e1]
      exact ⟨fun z => ⟨⟨z.1, z.2.1⟩, z.2.2⟩, fun z => ⟨z.1.1, z.1.2, z.2⟩⟩)
    (fun i h h' st k => let ⟨⟨old, he⟩, hi⟩ := st; ⟨⟨old, k e (by simp) _ he⟩, hi.at fun o q => k it (by simp) o q⟩)
    (fun i h st b hb => by
      obtain ⟨⟨old, he⟩, ⟨o, ho, hc, hd⟩⟩ := st
      have e' : b = e ∨ b = it := by simpa using hb
      rcases e' with z | z
      · rw [z]; exact ⟨_, he, fun v q => nomatch q⟩
      · rw [z]; exact ⟨o, ho, fun v q => by rw [hd] at q; cases q⟩) ?_
  intro X hP hw hK pins s σ H I hs
  subst hP hw hK
  obtain ⟨its, rv, p, hz⟩ := I.tuple hs
  refine ⟨its.toArray, p, by simp [rv.length], fun i v h' hi y => ?_⟩
  obtain ⟨T, tk, x, rfl, hT, hx, hTup⟩ := y
  have hx' : its[i]? = some x := by simpa using hx
  obtain ⟨y2, hy2, ry2⟩ : ∃ y2, vs[i]? = some y2 ∧ RelV y2 x := by
    obtain ⟨u, hu, ru⟩ := rv.get (List.getElem?_eq_getElem hi)
    rw [hx'] at hu
    cases hu
    exact ⟨_, List.getElem?_eq_getElem hi, ru⟩
  refine ⟨T, _, x, .int (i : Int), y2, rfl, hT, hTup, ⟨tk, ?_⟩, ry2, rfl, hy2⟩
  have e1 : (0 : Int) + (i : Int) = i := by omega
  rw [e1]
def iEnumT (K : PySem.W.Frag) (ta : TA) : TI := fun σ H R => ta σ H fun vs H1 => ∃ a xs, vs = [.ref a] ∧ SqT K H1 a xs ∧ R (It2 (fun H => SqT K H a xs) xs.length (enumP xs)) H1
theorem pi_enumT {X : Cx} {e : Expr} {ta : TA} {p pos tpos : Pos} {elts : List Expr} {kk : Nat} (hg : Gl X "enumerate") (hm : X.mg "enumerate" = none) (ha : PA X [e] ta) (hs : starEach [e] X.env = [(false, eval e X.env)] := by rfl) :
    PI X (.Tuple elts kk tpos) (.Call (.Name "enumerate" p) [e] [] pos) (iEnumT X.K ta) := by
  refine ⟨fun pins s σ H R I h => ?_⟩
  refine Call_ (ld_blt I hg hm boot_enumerate (PyProof.Rows.callWith_type1 (thn (ha.run pos pins s σ H _ I h) fun us s1 ⟨vs, H1, I1, r1, q1⟩ => ?_) hs rfl))
  obtain ⟨a, xs, ex, hq, q⟩ := q1
  subst ex
  cases r1 with
  | cons r rr =>
    cases rr
    cases r
    obtain ⟨its, rv, p', hz⟩ := I1.tuple hq
    have lt : a < s1.heap.objs.size := by
      obtain ⟨o, ho, _⟩ := p'
      exact Heap.lt_size ho
    refine enum_begins1 (begins_tuple a its.toArray) p' fun h' he hit hsz hk => wpAny_pyIter_enum he ?_
    have I2 : Inv X pins σ H1 { s1 with heap := h' } := I1.kept (t' := s1.toks) hk
    refine ⟨s1.heap.objs.size + 1, [s1.heap.objs.size + 1, s1.heap.objs.size], _, _, H1, rfl, I2, turn_enumT a (s1.heap.objs.size + 1) s1.heap.objs.size xs (Nat.succ_ne_self _) (Nat.ne_of_gt (Nat.lt_succ_of_lt lt)) (Nat.ne_of_lt lt), ⟨⟨.none, he⟩, ⟨_, hit, rfl, rfl⟩⟩, fun b hb => ?_, q⟩
    have e' : b = s1.heap.objs.size + 1 ∨ b = s1.heap.objs.size := by simpa using hb
    have hle : s1.heap.objs.size ≤ b := by
      rcases e' with z | z
      · rw [z]; exact Nat.le_add_right _ _
      · rw [z]; exact Nat.le_refl _
    exact I1.fpOk hle (I1.hok.fresh hle)
end Mi

set_option Elab.async false
set_option linter.all false
set_option maxRecDepth 100000
set_option maxHeartbeats 4000000
/-! Mi, part N: what the mirror walks: lists, tuples, dicts, range, enumerate, zip, values, items. -/
namespace Mi
open PySem PySem.Spec PyProof.Rows L2
theorem paired_get {α β : Type} {R : α → β → Prop} : ∀ {xs : List α} {ys : List β} {i : Nat} {y : β}, Paired R xs ys → ys[i]? = some y → ∃ x, xs[i]? = some x ∧ R x y
  | _, _, i, y, .nil, h => by simp at h
  | _, _, 0, y, .cons a r, h => by
    simp at h
    subst h
    exact ⟨_, rfl, a⟩
  | _, _, i + 1, y, .cons a r, h => by
    obtain ⟨x, h1, h2⟩ := paired_get (i := i) r (by simpa using h)
    exact ⟨x, by simpa using h1, h2⟩
theorem RepE.getE {w : World} {K : PySem.W.Frag} {ra : Addr} {F : Hp} : ∀ {es : List (NestedKey × V × V)} {kvs : List (D × D)} {i : Nat} {e : NestedKey × V × V}, RepE w K ra F es kvs → es[i]? = some e → ∃ p, kvs[i]? = some p ∧ Rep w K ra F e.2.1 p.1 ∧ Rep w K ra F e.2.2 p.2
  | _, _, i, e, .nil, h => by simp at h
  | _, _, 0, e, .cons k a b r, h => by
    simp at h
    subst h
    exact ⟨_, rfl, a, b⟩
  | _, _, i + 1, e, .cons k a b r, h => by
    obtain ⟨x, h1, h2⟩ := RepE.getE (i := i) r (by simpa using h)
    exact ⟨x, by simpa using h1, h2⟩
/-! ### dicts -/
section
variable {P : Program} {w : World} {K : PySem.W.Frag} {tg : Expr} {a it : Addr} {o : Obj} {des : Array DictEntry} {ep : Nat} {es : List (NestedKey × V × V)}
theorem turn_rawKeys (hne : a ≠ it) (hd : o.data = .dict des ep) (hx : o.ExactDict) (pr : Paired (DEnt w) es des.toList) :
    Turn P w K tg (ItP (fun H => H a = some (objO a o)) des.size fun i y => ∃ e, es[i]? = some e ∧ y = e.2.1) [it] it (fun i h => h.IsKeyIter it a i des.size ep) := by
  refine turn_plain (γ := Unit) (sz := fun _ => des.size) (fp := [it, a]) (wr := [it]) (St := fun _ i h => h.IsKeyIter it a i des.size ep ∧ h.DictRaw a des ep) (Src := fun _ h => h.DictRaw a des ep)
    (fun A i s Q E st h => wpAny_pyIter_keyiter st h) (by simp) (fun b hb => hb) (fun A _ hh => (Goes.rawKeys hh it a hne des ep).toN) (fun _ _ _ => Iff.rfl) (fun i h h' st k => st.at fun o e => k it (by simp) o e)
    (fun i h st b hb => by
      obtain ⟨ob, ho, _, hd⟩ := st
      have e : b = it := by simpa using hb
      subst e
      exact ⟨ob, ho, fun v q => by rw [hd] at q; cases q⟩) ?_
  intro X hP hw hK pins s σ H I hs
  subst hP hw hK
  have ho : s.heap.get? a = some o := (show ObjOk X.prog X.w H s.heap a (objO a o) from I.hok a _ hs).1
  refine ⟨(), ⟨o, ho, hx, hd⟩, rfl, fun i v h' hi y => ?_⟩
  obtain ⟨hi', rfl⟩ := y
  obtain ⟨e, he, h1, h2, h3⟩ := paired_get (i := i) (y := des[i]) pr (by simp [hi'])
  exact ⟨e.2.1, h2, e, he, rfl⟩
end
def iRawD (w : World) (J : Addr → Obj → Nat → List (NestedKey × V × V) → It) (tl : TE) : TI := fun σ H R => tl σ H fun x H1 => ∃ (a : Addr) (es : List (NestedKey × V × V)) (o : Obj), x = .ref a ∧ H1 a = some (objO a o) ∧ DF w a es o ∧ R (J a o es.length es) H1
section
variable {X : Cx} {tg l : Expr} {tl : TE}
def JKeys (a : Addr) (o : Obj) (n : Nat) (es : List (NestedKey × V × V)) : It := ItP (fun H => H a = some (objO a o)) n fun i y => ∃ e, es[i]? = some e ∧ y = e.2.1
theorem pi_rawKeys (hl : PE X l tl) : PI X tg l (iRawD X.w JKeys tl) := by
  refine ⟨fun pins s σ H R I h => ?_⟩
  refine thn (hl.run pins s σ H _ I h) fun v s1 ⟨x, H1, I1, r1, a, es, o, ex, h1, ⟨hs, _, _, _, hx, des, ep, hd, pr⟩, q⟩ => ?_
  subst ex
  obtain rfl : v = Value.ref a := r1
  have ho : s1.heap.get? a = some o := (show ObjOk X.prog X.w H1 s1.heap a (objO a o) from I1.hok a _ h1).1
  have hl := Paired.length pr
  have hm : s1.heap.DictRaw a des ep := ⟨o, ho, hx, hd⟩
  refine wpAny_pyIter_dict_raw hs hm (pi_one (tk := s1.toks) I1 _ (turn_rawKeys (Nat.ne_of_lt (Heap.lt_size ho)) hd hx pr) ⟨_, Heap.get?_push_size _ rfl, rfl, rfl⟩ ?_)
  have e : des.size = es.length := by simp [hl]
  rw [e]
  exact q
variable {apos cpos : Pos}
end

/-! ### the mirror's walks -/
def itemsD (d : D) : Option (List D) := match d with
  | .lst l => some l
  | .tup l => some l
  | .dct kvs => some (kvs.map (·.1))
  | _ => none
def walkM (m : M D) : M (List D) := bindM m fun d => liftO (itemsD d)
theorem RepE.keyAt {w : World} {K : PySem.W.Frag} {ra : Addr} {F : Hp} {es : List (NestedKey × V × V)} {kvs : List (D × D)} (r : RepE w K ra F es kvs) {i : Nat} {y : V} (h : ∃ e, es[i]? = some e ∧ y = e.2.1) : ∃ d, (kvs.map (·.1))[i]? = some d ∧ Rep w K ra F y d := by
  obtain ⟨e, he, rfl⟩ := h
  obtain ⟨p, hp, r1, _⟩ := r.getE he
  exact ⟨p.1, by simp [hp], r1⟩
section
variable {X : Cx} {W : WX} {tg it : Expr} {m : M D} {p pos : Pos}
theorem tG_ok {w : World} {K : PySem.W.Frag} {ra : Addr} {HK : Kp} {F H : Hp} {e e1 : Env} {σ : St} {d : D} {Q : VK} (R : Rel w K ra HK F e σ H) (hm : m e = .ok d e1) (h : okG TV w K ra HK F σ Q d e1) : tG TV w K W m σ H Q :=
  ⟨ra, HK, F, e, R, by rw [hm]; exact h⟩
theorem tG_exc {w : World} {K : PySem.W.Frag} {ra : Addr} {HK : Kp} {F H : Hp} {e e1 : Env} {σ : St} {x : Exn} {Q : VK} (R : Rel w K ra HK F e σ H) (hm : m e = .exc x e1) (h : exW w K ra HK F W x e1) : tG TV w K W m σ H Q :=
  ⟨ra, HK, F, e, R, by rw [hm]; exact h⟩
theorem pim_items (h : PM X W it m) : PIM X W tg it (walkM m) := by
  refine PI.weaken (PI.or (pi_list h) (PI.or (pi_tup h) (pi_rawKeys h))) ?_
  rintro σ H Q ⟨ra, HK, F, e, R, hw⟩
  have hw := wp_bind.mp hw
  cases hm : m e with
  | err =>
    rw [hm] at hw
    exact hw.elim
  | exc x e1 =>
    rw [hm] at hw
    exact .inl (tG_exc R hm hw)
  | ok d e1 =>
    rw [hm] at hw
    cases d with
    | lst l =>
      refine .inl (tG_ok R hm fun b F' H' s R' r => ?_)
      cases r with
      | @lst a vs ds h1 h2 => exact ⟨a, rfl, ⟨vs, .of (R'.fh _ _ h1)⟩, hw _ F' H' s R' (itok_list h1 h2)⟩
    | tup l =>
      refine .inr (.inl (tG_ok R hm fun b F' H' s R' r => ?_))
      cases r with
      | @tup a vs ds h1 h2 => exact ⟨a, rfl, ⟨vs, Same.seqT R'.fh h1⟩, hw _ F' H' s R' (itok_tup h1 h2)⟩
    | dct kvs =>
      refine .inr (.inr (tG_ok R hm fun b F' H' s R' r => ?_))
      cases r with
      | @dct a es kvs h1 h2 =>
        obtain ⟨o, h3, h4⟩ := h1
        exact ⟨a, es, o, rfl, R'.fh _ _ h3, h4, hw _ F' H' s R' (itok_plain (by simp [h2.length]) (fun F1 H1 s1 s2 => s2 _ _ (s1 _ _ h3)) fun i v hi hp => h2.keyAt hp)⟩
    | _ => exact hw.elim
theorem itok_range {w : World} {K : PySem.W.Frag} {ra : Addr} {F : Hp} (lo : Int) (n : Nat) : ItOk w K ra F (Itr lo n) ((List.range n).map fun (i : Nat) => D.int (lo + i)) where
  go := fun i F1 H s1 s2 hi => by simpa [Itr] using hi
  stop := fun i F1 H s1 s2 hi => by
    have : i = n := by simpa using hi
    show n ≤ i
    omega
  yld := fun i F1 H x H' s1 s2 hi y => by
    obtain ⟨rfl, rfl⟩ := y
    exact ⟨.int (lo + i), by simp at hi; simp [hi], .inl ⟨rfl, .int _⟩⟩
def okI (i : Int) : Bool := decide (i.natAbs ≤ 1000000000)
theorem okI_of {i : Int} (h : okI i = true) : -(2 ^ 62) ≤ i ∧ i < 2 ^ 62 := by
  unfold okI at h
  simp only [decide_eq_true_eq] at h
  omega
def rngL (lo hi : Int) : List D := (List.range (hi - lo).toNat).map fun (i : Nat) => D.int (lo + i)
def range1D (l : List D) : Option (List D) := match l with
  | [.int j] => if okI j then some (rngL 0 j) else none
  | _ => none
def range2D (l : List D) : Option (List D) := match l with
  | [.int i, .int j] => if okI i && okI j then some (rngL i j) else none
  | _ => none
theorem range1_inv {l ds : List D} (h : range1D l = some ds) : ∃ j, l = [.int j] ∧ okI j = true ∧ ds = rngL 0 j := by
  unfold range1D at h
  split at h
  · rename_i j
    by_cases c : okI j = true
    · rw [if_pos c] at h
      cases h
      exact ⟨j, rfl, c, rfl⟩
    · rw [if_neg c] at h
      cases h
  · cases h
theorem range2_inv {l ds : List D} (h : range2D l = some ds) : ∃ i j, l = [.int i, .int j] ∧ okI i = true ∧ okI j = true ∧ ds = rngL i j := by
  unfold range2D at h
  split at h
  · rename_i i j
    by_cases c : (okI i && okI j) = true
    · rw [if_pos c] at h
      cases h
      obtain ⟨c1, c2⟩ := Bool.and_eq_true_iff.mp c
      exact ⟨i, j, rfl, c1, c2, rfl⟩
    · rw [if_neg c] at h
      cases h
  · cases h
def listM (m : M (List D)) (f : List D → Option (List D)) : M (List D) := bindM m fun l => liftO (f l)
theorem pim_range1 {a : Expr} {ma : M (List D)} (hm : X.mg "range" = none) (ha : PMA X W [a] ma) (hg : Gl X "range" := by rfl) (hs : starEach [a] X.env = [(false, eval a X.env)] := by rfl) : PIM X W tg (.Call (.Name "range" p) [a] [] pos) (listM ma range1D) := by
  refine PI.weaken (pi_range1 hg hm ha hs) ?_
  rintro σ H Q ⟨ra, HK, F, e, R, hw⟩
  have hw := wp_bind.mp hw
  refine ⟨ra, HK, F, e, R, wp_mono hw (fun l e1 q vs F1 H1 s1 R1 r1 => ?_) fun _ _ q => q⟩
  unfold liftO at q
  cases ez : range1D l with
  | none =>
    rw [ez] at q
    exact q.elim
  | some ds =>
    rw [ez] at q
    have r1' : RepA X.w X.K ra F1 vs l := r1
    obtain ⟨j, rfl, c, rfl⟩ := range1_inv ez
    cases r1' with
    | cons x y =>
      cases x
      cases y
      obtain ⟨c1, c2⟩ := okI_of c
      refine ⟨j, rfl, c1, c2, ?_⟩
      have := q (Itr 0 j.toNat) F1 H1 s1 R1
      unfold rngL at this
      rw [Int.sub_zero] at this
      exact this (itok_range 0 j.toNat)
theorem pim_range2 {a b : Expr} {ma : M (List D)} (hm : X.mg "range" = none) (ha : PMA X W [a, b] ma) (hg : Gl X "range" := by rfl) (hs : starEach [a, b] X.env = [(false, eval a X.env), (false, eval b X.env)] := by rfl) (hs2 : starEach [b] X.env = [(false, eval b X.env)] := by rfl) : PIM X W tg (.Call (.Name "range" p) [a, b] [] pos) (listM ma range2D) := by
  refine PI.weaken (pi_range2 hg hm ha hs hs2) ?_
  rintro σ H Q ⟨ra, HK, F, e, R, hw⟩
  have hw := wp_bind.mp hw
  refine ⟨ra, HK, F, e, R, wp_mono hw (fun l e1 q vs F1 H1 s1 R1 r1 => ?_) fun _ _ q => q⟩
  unfold liftO at q
  cases ez : range2D l with
  | none =>
    rw [ez] at q
    exact q.elim
  | some ds =>
    rw [ez] at q
    have r1' : RepA X.w X.K ra F1 vs l := r1
    obtain ⟨i, j, rfl, c, c', rfl⟩ := range2_inv ez
    cases r1' with
    | cons x y =>
      cases y with
      | cons y z =>
        cases x
        cases y
        cases z
        exact ⟨i, j, rfl, ⟨(okI_of c).1, (okI_of c).2, (okI_of c').1, (okI_of c').2⟩, q _ F1 H1 s1 R1 (itok_range i (j - i).toNat)⟩
/-! enumerate -/
def enumL (l : List D) : List D := l.zipIdx.map fun (d, (i : Nat)) => .tup [.int i, d]
def enum1D (l : List D) : Option (List D) := match l with
  | [.lst l] => some (enumL l)
  | [.tup l] => some (enumL l)
  | _ => none
theorem enumL_length (l : List D) : (enumL l).length = l.length := by simp [enumL]
theorem enumL_get {l : List D} {i : Nat} {d : D} (h : l[i]? = some d) : (enumL l)[i]? = some (.tup [.int i, d]) := by
  unfold enumL
  rw [List.getElem?_map, List.getElem?_zipIdx, h]
  simp
theorem itok_enumL {w : World} {K : PySem.W.Frag} {ra : Addr} {F : Hp} {a : Addr} {vs : List V} {ds : List D} (h : F a = some (.lst vs)) (r : RepA w K ra F vs ds) : ItOk w K ra F (Ite K a) (enumL ds) where
  go := fun i F1 H s1 s2 hi => by
    rw [enumL_length] at hi
    obtain ⟨v, hv, _⟩ := r.get (List.getElem?_eq_getElem hi)
    exact ⟨vs, v, .of (s2 _ _ (s1 _ _ h)), hv⟩
  stop := fun i F1 H s1 s2 hi => ⟨vs, .of (s2 _ _ (s1 _ _ h)), by rw [r.length, hi, enumL_length]; exact Nat.le_refl _⟩
  yld := fun i F1 H x H' s1 s2 hi y => by
    obtain ⟨T, x1, rfl, hT, rfl, k⟩ := y
    have hx := k vs (.of (s2 _ _ (s1 _ _ h)))
    obtain ⟨d, hd, rd⟩ := r.get' hx
    exact ⟨_, enumL_get hd, .inr ⟨T, _, hT, rfl, fun F2 s3 e => .tup (.of e) (.cons (.int _) (.cons (rd.mono s3) .nil))⟩⟩
theorem itok_enumT {w : World} {K : PySem.W.Frag} {ra : Addr} {F : Hp} {a : Addr} {vs : List V} {ds : List D} (h : SqT K F a vs) (r : RepA w K ra F vs ds) : ItOk w K ra F (It2 (fun H => SqT K H a vs) vs.length (enumP vs)) (enumL ds) :=
  itok_pairs (by rw [enumL_length, r.length]) (fun F1 H s1 s2 => Same.seqT s2 (Same.seqT s1 h)) fun i v1 v2 hi hp => by
    obtain ⟨rfl, hv⟩ := hp
    obtain ⟨d, hd, rd⟩ := r.get' hv
    exact ⟨_, _, enumL_get hd, .int _, rd⟩
theorem enum_inv {l ds : List D} (h : enum1D l = some ds) : ∃ l', (l = [.lst l'] ∨ l = [.tup l']) ∧ ds = enumL l' := by
  unfold enum1D at h
  split at h
  · cases h
    exact ⟨_, .inl rfl, rfl⟩
  · cases h
    exact ⟨_, .inr rfl, rfl⟩
  · cases h
theorem tGA_ok {w : World} {K : PySem.W.Frag} {ra : Addr} {HK : Kp} {F H : Hp} {e e1 : Env} {σ : St} {d : List D} {m : M (List D)} {Q : List V → Hp → Prop} (R : Rel w K ra HK F e σ H) (hm : m e = .ok d e1) (h : okG TAs w K ra HK F σ Q d e1) : tG TAs w K W m σ H Q :=
  ⟨ra, HK, F, e, R, by rw [hm]; exact h⟩
theorem tGA_exc {w : World} {K : PySem.W.Frag} {ra : Addr} {HK : Kp} {F H : Hp} {e e1 : Env} {σ : St} {x : Exn} {m : M (List D)} {Q : List V → Hp → Prop} (R : Rel w K ra HK F e σ H) (hm : m e = .exc x e1) (h : exW w K ra HK F W x e1) : tG TAs w K W m σ H Q :=
  ⟨ra, HK, F, e, R, by rw [hm]; exact h⟩
theorem pim_enum {a : Expr} {elts : List Expr} {kk : Nat} {tpos : Pos} {ma : M (List D)} (hm : X.mg "enumerate" = none) (ha : PMA X W [a] ma) (hg : Gl X "enumerate" := by rfl) (hs : starEach [a] X.env = [(false, eval a X.env)] := by rfl) : PIM X W (.Tuple elts kk tpos) (.Call (.Name "enumerate" p) [a] [] pos) (listM ma enum1D) := by
  refine PI.weaken (PI.or (pi_enum hg hm ha hs) (pi_enumT hg hm ha hs)) ?_
  rintro σ H Q ⟨ra, HK, F, e, R, hw⟩
  have hw := wp_bind.mp hw
  cases hm : ma e with
  | err =>
    rw [hm] at hw
    exact hw.elim
  | exc x e1 =>
    rw [hm] at hw
    exact .inl (tGA_exc R hm hw)
  | ok l e1 =>
    rw [hm] at hw
    unfold liftO at hw
    simp only [Res.wp] at hw
    cases ez : enum1D l with
    | none =>
      rw [ez] at hw
      exact hw.elim
    | some ds =>
      rw [ez] at hw
      obtain ⟨l', rfl | rfl, rfl⟩ := enum_inv ez
      · refine .inl (tGA_ok R hm fun b F' H' s R' r => ?_)
        have r' : RepA X.w X.K ra F' b [.lst l'] := r
        cases r' with
        | cons x y =>
          cases y
          cases x with
          | @lst a vs ds h1 h2 => exact ⟨a, vs, rfl, .of (R'.fh _ _ h1), hw _ F' H' s R' (itok_enumL h1 h2)⟩
      · refine .inr (tGA_ok R hm fun b F' H' s R' r => ?_)
        have r' : RepA X.w X.K ra F' b [.tup l'] := r
        cases r' with
        | cons x y =>
          cases y
          cases x with
          | @tup a vs ds h1 h2 => exact ⟨a, vs, rfl, Same.seqT R'.fh h1, hw _ F' H' s R' (itok_enumT h1 h2)⟩
/-! zip of two lists -/
def zipL (l l' : List D) : List D := (l.zip l').map fun (a, b) => .tup [a, b]
def zipD (l : List D) : Option (List D) := match l with
  | [.lst l, .lst l'] => some (zipL l l')
  | _ => none
/-! d.values(), d.items() -/
def walkD (m : M D) (f : D → Option (List D)) : M (List D) := bindM m fun d => liftO (f d)
variable {apos cpos : Pos}
end
end Mi

set_option Elab.async false
set_option linter.all false
set_option maxRecDepth 100000
set_option maxHeartbeats 4000000
/-! Mi, part O: list comprehensions. -/
namespace Mi
open PySem PySem.Spec PyProof.Rows L2
def wipeS (sl : List Slot) : List Nat → List Slot
  | [] => sl
  | v :: vs => (wipeS sl vs).set v .no
def restS (sl' sl : List Slot) : List Nat → List Slot
  | [] => sl'
  | v :: vs => (restS sl' sl vs).set v ((sl[v]?).getD .no)
theorem restS_length (sl' sl : List Slot) : ∀ vs, (restS sl' sl vs).length = sl'.length
  | [] => rfl
  | v :: vs => by unfold restS; rw [List.length_set, restS_length sl' sl vs]
theorem restS_in {sl' sl : List Slot} {j : Nat} : ∀ {vs : List Nat}, j ∈ vs → j < sl'.length → (restS sl' sl vs)[j]? = some ((sl[j]?).getD .no)
  | v :: vs, h, l => by
    unfold restS
    by_cases e : v = j
    · subst e
      rw [List.getElem?_set_self (by rw [restS_length]; exact l)]
    · rw [List.getElem?_set_ne e]
      exact restS_in (by
        rcases List.mem_cons.mp h with z | z
        · exact absurd z.symm e
        · exact z) l
theorem restS_out {sl' sl : List Slot} {j : Nat} : ∀ {vs : List Nat}, j ∉ vs → (restS sl' sl vs)[j]? = sl'[j]?
  | [], _ => rfl
  | v :: vs, h => by
    unfold restS
    rw [List.mem_cons, not_or] at h
    rw [List.getElem?_set_ne fun z => h.1 z.symm]
    exact restS_out h.2
def wipeE (e : Env) (vs : List Nat) : Env := { e with sl := wipeS e.sl vs }
def restE (e' e : Env) (vs : List Nat) : Env := { e' with sl := restS e'.sl e.sl vs }
def Slot.isOwn : Slot → Bool
  | .own _ => true
  | .box _ => true
  | _ => false
theorem Slot.own_c (s : Slot) : s.isOwn = s.isC := by cases s <;> rfl
def noOwn (sl : List Slot) (vs : List Nat) : Bool := vs.all fun v => !((sl[v]?).getD .no).isOwn
section
variable {w : World} {K : PySem.W.Frag} {ra : Addr} {HK : Kp} {F F0 H H0 : Hp} {e e' : Env} {σ : St}
theorem Rel.wipe (R : Rel w K ra HK F e σ H) : ∀ vs : List Nat, Rel w K ra HK F (wipeE e vs) (L2.wipe σ vs) H
  | [] => R
  | v :: vs => (Rel.wipe R vs).setNo v none
theorem Rel.rest (R' : Rel w K ra HK F e' (L2.wipe σ vs) H) (R : Rel w K ra HK F0 e σ H0) (s : Same F0 F) (hn : noOwn e.sl vs = true) : Rel w K ra HK F (restE e' e vs) σ H := by
  have hlen : e'.sl.length = σ.length := by rw [R'.len, wipe_length]
  have hno : ∀ j ∈ vs, ∀ s, s.isC = true → e.sl[j]? ≠ some s := fun j hj s c z => by
    have := List.all_eq_true.mp hn j hj
    rw [z, Option.getD_some, Slot.own_c, c] at this
    cases this
  have own_out : ∀ {j : Nat} {o : Slot}, (restS e'.sl e.sl vs)[j]? = some o → o.isC = true → j ∉ vs ∧ e'.sl[j]? = some o := fun {j o} h oc => by
    by_cases c : j ∈ vs
    · exfalso
      have l : j < e'.sl.length := by
        have := (List.getElem?_eq_some_iff.mp h).1
        rw [restS_length] at this
        exact this
      rw [restS_in c l] at h
      cases q : e.sl[j]? with
      | none =>
        rw [q] at h
        cases h
        cases oc
      | some s =>
        rw [q] at h
        simp only [Option.getD_some, Option.some.injEq] at h
        subst h
        exact hno j c _ oc q
    · rw [restS_out c] at h
      exact ⟨c, h⟩
  refine ⟨R'.fh, R'.kh, by show (restS e'.sl e.sl vs).length = _; rw [restS_length]; exact hlen, fun j t hj => ?_, fun i j s1 s2 a a' p hij h1 h2 k1 k2 h3 h4 f => ?_, R'.row, R'.fra, R'.kra, R'.pn⟩
  · have hj' : (restS e'.sl e.sl vs)[j]? = some t := hj
    by_cases c : j ∈ vs
    · have l : j < e'.sl.length := by
        have := (List.getElem?_eq_some_iff.mp hj').1
        rw [restS_length] at this
        exact this
      rw [restS_in c l] at hj'
      cases q : e.sl[j]? with
      | none =>
        rw [q] at hj'
        cases hj'
        trivial
      | some u =>
        rw [q] at hj'
        simp only [Option.getD_some, Option.some.injEq] at hj'
        subst hj'
        have := R.sl j u q
        exact this.mono s fun p hc _ => absurd q (hno j c _ hc)
    · rw [restS_out c] at hj'
      have := R'.sl j t hj'
      rw [wipe_out c] at this
      exact this
  · obtain ⟨c1, q1⟩ := own_out h1 k1
    obtain ⟨c2, q2⟩ := own_out h2 k2
    exact R'.sep i j s1 s2 a a' p hij q1 q2 k1 k2 (by rw [wipe_out c1]; exact h3) (by rw [wipe_out c2]; exact h4) f
/-- a list under construction -/
def pinD (HK : Kp) (D : Addr) (u : HO) : Kp := ⟨upd HK.h D u, fun a => HK.pin a ∨ a = D, HK.me⟩
theorem Rel.pinNew (R : Rel w K ra HK F e σ H) {D : Addr} (hD : H D = none) (u : HO) : Rel w K ra (pinD HK D u) F e σ (upd H D u) := by
  have R2 := R.grow hD u
  have fD : F D = none := R.fh.free hD
  refine ⟨R2.fh, fun b z q => ?_, R2.len, fun i s h => ?_, R2.sep, R2.row, R2.fra, ?_, fun b hb => ?_⟩
  · have q' : upd HK.h D u b = some z := q
    by_cases hb : b = D
    · subst hb
      rw [upd_same] at q' ⊢
      exact q'
    · rw [upd_ne hb] at q' ⊢
      exact R.kh b z q'
  · have := R2.sl i s h
    cases s with
    | no => trivial
    | pin => exact this
    | val d => exact this
    | own o =>
      obtain ⟨a, e1, r, fa, ka, na⟩ := this
      exact ⟨a, e1, r, fa, by show upd HK.h D u a = none; rw [upd_ne fun z => R.own_some h e1 (by rw [z]; exact hD)]; exact ka, na⟩
    | box l =>
      obtain ⟨a, e1, es, at_, rb, nd, f⟩ := this
      refine ⟨a, e1, es, at_, rb, nd, fun p hp => ?_⟩
      obtain ⟨f1, f2, f3, f4⟩ := f p hp
      refine ⟨f1, ?_, f3, f4⟩
      show upd HK.h D u p = none
      by_cases z : p = D
      · subst z
        have na : a ≠ p := fun z => by
          have := (R.foot h rfl e1 (.inl rfl)).2.2.2
          rw [z] at this
          exact this hD
        rcases hp with rfl | hp
        · exact absurd rfl na
        · exact absurd hD (R.foot h rfl e1 (.inr ⟨rfl, (Inn.congr (upd_ne na)).mp hp⟩)).2.2.2
      · rw [upd_ne z]
        exact f2
  · show upd HK.h D u ra = none
    rw [upd_ne fun z => R.ra_some (by rw [z]; exact hD)]
    exact R.kra
  · rcases hb with hb | rfl
    · refine ⟨?_, (R.pn b hb).2⟩
      show upd HK.h D u b ≠ none
      by_cases c : b = D
      · subst c
        rw [upd_same]
        exact fun z => by cases z
      · rw [upd_ne c]
        exact (R.pn b hb).1
    · exact ⟨by show upd HK.h b u b ≠ none; rw [upd_same]; exact (fun z => by cases z), fD⟩
theorem Rel.repin {D : Addr} {u u' : HO} (R : Rel w K ra (pinD HK D u) F e σ H) : Rel w K ra (pinD HK D u') F e σ (upd H D u') := by
  have fD : F D = none := (R.pn D (.inr rfl)).2
  have nra : ra ≠ D := fun z => by
    have := R.kra
    have e : upd HK.h D u ra = none := this
    rw [z, upd_same] at e
    cases e
  have kne : ∀ b, (pinD HK D u).h b = none → b ≠ D := fun b hb z => by
    have e : upd HK.h D u b = none := hb
    rw [z, upd_same] at e
    cases e
  refine ⟨fun b z q => ?_, fun b z q => ?_, R.len, fun i s h => ?_, R.sep.heap fun i s a h c hs => upd_ne (kne a (R.foot h c hs (.inl rfl)).2.1), R.row.mono (Same.refl F) (upd_ne nra), R.fra, ?_, fun b hb => ?_⟩
  · rw [upd_ne (ne_of_none q fD)]
    exact R.fh b z q
  · have q' : upd HK.h D u' b = some z := q
    by_cases hb : b = D
    · subst hb
      rw [upd_same] at q' ⊢
      exact q'
    · rw [upd_ne hb] at q' ⊢
      exact R.kh b z (by show upd HK.h D u b = some z; rw [upd_ne hb]; exact q')
  · cases s with
    | no => trivial
    | pin => exact R.sl i _ h
    | val d => exact R.sl i _ h
    | box l =>
      obtain ⟨a, e1, es, at_, rb, nd, f⟩ := R.sl i _ h
      have na : a ≠ D := kne a (f a (.inl rfl)).2.1
      refine ⟨a, e1, es, ?_, rb.mono (Same.refl F) fun e he p hp => upd_ne (kne p (f p (.inr (at_.inn he hp))).2.1), nd, fun p hp => ?_⟩
      · obtain ⟨o, h1, h2⟩ := at_
        exact ⟨o, (upd_ne na).trans h1, h2⟩
      · obtain ⟨f1, f2, f3, f4⟩ := f p (hp.imp id (Inn.congr (upd_ne na)).mp)
        have ne := kne p f2
        refine ⟨f1, ?_, f3, by rw [upd_ne ne]; exact f4⟩
        show upd HK.h D u' p = none
        have e : upd HK.h D u p = none := f2
        rw [upd_ne ne] at e ⊢
        exact e
    | own o =>
      obtain ⟨a, e1, r, fa, ka, na⟩ := R.sl i _ h
      have hne : a ≠ D := fun z => by
        have e : upd HK.h D u a = none := ka
        rw [z, upd_same] at e
        cases e
      refine ⟨a, e1, ?_, fa, by show upd HK.h D u' a = none; rw [upd_ne hne]; exact (by have e : upd HK.h D u a = none := ka; rwa [upd_ne hne] at e), na⟩
      cases o with
      | lst ds =>
        obtain ⟨vs, h1, h2⟩ := r
        exact ⟨vs, (upd_ne hne).trans h1, h2⟩
      | dct kvs =>
        obtain ⟨es, ⟨o, h1, h3⟩, h2⟩ := r
        exact ⟨es, ⟨o, (upd_ne hne).trans h1, h3⟩, h2⟩
  · show upd HK.h D u' ra = none
    rw [upd_ne nra]
    have e : upd HK.h D u ra = none := R.kra
    rwa [upd_ne nra] at e
  · refine ⟨?_, (R.pn b hb).2⟩
    show upd HK.h D u' b ≠ none
    by_cases c : b = D
    · subst c
      rw [upd_same]
      exact fun z => by cases z
    · rw [upd_ne c]
      have := (R.pn b hb).1
      have e : upd HK.h D u b ≠ none := this
      rwa [upd_ne c] at e
theorem Rel.unpin {D : Addr} {u : HO} (R : Rel w K ra (pinD HK D u) F e σ H) (hk : HK.h D = none) (hp : ∀ a, HK.pin a → HK.h a ≠ none) : Rel w K ra HK F e σ H ∧ F D = none ∧ D ≠ ra ∧ H D = some u ∧ NotIn e σ H D := by
  have nra : D ≠ ra := fun z => by
    have e : upd HK.h D u ra = none := R.kra
    rw [← z, upd_same] at e
    cases e
  have kne : ∀ b, (pinD HK D u).h b = none → b ≠ D := fun b hb z => by
    have e : upd HK.h D u b = none := hb
    rw [z, upd_same] at e
    cases e
  refine ⟨⟨R.fh, fun b z q => ?_, R.len, fun i s h => ?_, R.sep, R.row, R.fra, ?_, fun b hb => ⟨hp b hb, (R.pn b (.inl hb)).2⟩⟩, (R.pn D (.inr rfl)).2, nra, R.kh D u (by show upd HK.h D u D = some u; exact upd_same), fun i s a h c hs f => kne D (R.foot h c hs f).2.1 rfl⟩
  · exact R.kh b z (by show upd HK.h D u b = some z; rw [upd_ne (ne_of_none q hk)]; exact q)
  · cases s with
    | no => trivial
    | pin => exact R.sl i _ h
    | val d => exact R.sl i _ h
    | own o =>
      obtain ⟨a, e1, r, fa, ka, na⟩ := R.sl i _ h
      have hne : a ≠ D := fun z => by
        have e : upd HK.h D u a = none := ka
        rw [z, upd_same] at e
        cases e
      exact ⟨a, e1, r, fa, by have e : upd HK.h D u a = none := ka; rwa [upd_ne hne] at e, na⟩
    | box l =>
      obtain ⟨a, e1, es, at_, rb, nd, f⟩ := R.sl i _ h
      refine ⟨a, e1, es, at_, rb, nd, fun p hp => ?_⟩
      obtain ⟨f1, f2, f3, f4⟩ := f p hp
      have e : upd HK.h D u p = none := f2
      rw [upd_ne (kne p f2)] at e
      exact ⟨f1, e, f3, f4⟩
  · have e : upd HK.h D u ra = none := R.kra
    rwa [upd_ne nra.symm] at e
end
theorem notIn_rest {e e' : Env} {σ : St} {H : Hp} {D : Addr} {vs : List Nat} (nd : NotIn e' (L2.wipe σ vs) H D) (hn : noOwn e.sl vs = true) : NotIn (restE e' e vs) σ H D := fun i s a h c hs f => by
  have h' : (restS e'.sl e.sl vs)[i]? = some s := h
  by_cases q : i ∈ vs
  · have l : i < e'.sl.length := by
      have := (List.getElem?_eq_some_iff.mp h').1
      rw [restS_length] at this
      exact this
    rw [restS_in q l] at h'
    have := List.all_eq_true.mp hn i q
    simp only [Option.some.injEq] at h'
    rw [h', Slot.own_c, c] at this
    cases this
  · rw [restS_out q] at h'
    exact nd i s a h' c (by rw [L2.wipe_out q]; exact hs) f
/-! ### the mirror -/
def lcGo (g : D → M Unit) (t : M Bool) (el : M D) (vs : List Nat) : List D → List D → M (List D)
  | [], acc => pureM acc
  | d :: ds, acc => bindM (g d) fun _ => bindM t fun c => if c = true then bindM el fun y => bindM (small (acc ++ [y])) fun _ => fun e => lcGo g t el vs ds (acc ++ [y]) (wipeE e vs) else fun e => lcGo g t el vs ds acc (wipeE e vs)
def lcRun (g : D → M Unit) (t : M Bool) (el : M D) (vs : List Nat) (ds : List D) : M OD := fun e => if noOwn e.sl vs = true then (match lcGo g t el vs ds [] (wipeE e vs) with
  | .ok l e' => .ok (.lst l) (restE e' e vs)
  | _ => .err) else .err
def lcM (mi : M (List D)) (g : D → M Unit) (t : M Bool) (el : M D) (vs : List Nat) : M OD := bindM mi (lcRun g t el vs)
/-- nothing is raised here -/
abbrev WN : WX := fun _ _ _ _ => False
def PMTs (X : Cx) (W : WX) (ifs : List Expr) (m : M Bool) : Prop := PTs X ifs (tG TB X.w X.K W m)
theorem PTs.weaken {X : Cx} {ifs : List Expr} {t t' : TT} (h : PTs X ifs t) (k : ∀ σ H Q, t' σ H Q → t σ H Q) : PTs X ifs t' := ⟨fun pins s σ H Q I hw => h.run pins s σ H Q I (k σ H Q hw)⟩
theorem pmts_nil {X : Cx} {W : WX} : PMTs X W [] (pureM true) := PTs.weaken pts_nil fun σ H Q h => by
  obtain ⟨ra, HK, F, e, R, h⟩ := h
  exact h true F H (Same.refl F) R rfl
theorem pmts_one {X : Cx} {W : WX} {c : Expr} {m : M Bool} (h : PMT X W c m) : PMTs X W [c] m := pts_one h
theorem lc_read {w : World} {K : PySem.W.Frag} {W : WX} {mi : M (List D)} {g : D → M Unit} {t : M Bool} {el : M D} {is vs : List Nat} (hsub : ∀ i ∈ is, i ∈ vs) {σ : St} {H : Hp} {Q : VK} (h : tG TO w K W (lcM mi g t el vs) σ H Q) :
    tLc (tI w K W mi) (tT w K is g) (tG TB w K WN t) (tG TV w K WN el) vs σ H Q := by
  obtain ⟨ra, HK, F, e, R, h⟩ := h
  unfold lcM at h
  refine ⟨ra, HK, F, e, R, wp_mono (wp_bind.mp h) (fun ds e1 q J F1 H1 s1 R1 ok => ?_) fun _ _ q => q⟩
  intro D hD
  unfold lcRun at q
  by_cases hn : noOwn e1.sl vs = true
  · simp only [if_pos hn] at q
    cases eg : lcGo g t el vs ds [] (wipeE e1 vs) with
    | err =>
      rw [eg] at q
      exact q.elim
    | exc x e' =>
      rw [eg] at q
      exact q.elim
    | ok l e' =>
      rw [eg] at q
      have kD : HK.h D = none := R1.kh.free hD
      have hpn : ∀ a, HK.pin a → HK.h a ≠ none := fun a ha => (R1.pn a ha).1
      refine ⟨fun i m H => m = ds.length - i ∧ i ≤ ds.length ∧ ∃ F2 e2 acc dacc, Same F1 F2 ∧ Rel w K ra (pinD HK D (.lst acc)) F2 e2 (wipe σ vs) H ∧ RepA w K ra F2 acc dacc ∧ dacc.length ≤ sizeLine ∧ lcGo g t el vs (ds.drop i) dacc e2 = .ok l e',
        ⟨ds.length, rfl, Nat.zero_le _, F1, _, [], [], Same.refl F1, (R1.wipe vs).pinNew hD _, .nil, Nat.zero_le _, eg⟩, ?_⟩
      rintro i m H2 ⟨rfl, hil, F2, e2, acc, dacc, s2, R2, ra2, hz2, h2⟩
      by_cases hlt : i < ds.length
      · refine .inr ⟨ok.go i F2 H2 s2 R2.fh hlt, fun H' => ∃ F2 e2 acc dacc, Same F1 F2 ∧ Rel w K ra (pinD HK D (.lst acc)) F2 e2 (wipe σ vs) H' ∧ RepA w K ra F2 acc dacc ∧ dacc.length ≤ sizeLine ∧ lcGo g t el vs (ds.drop (i + 1)) dacc e2 = .ok l e',
          fun H' z => ⟨ds.length - (i + 1), by omega, rfl, hlt, z⟩, fun x H3 y => ?_⟩
        obtain ⟨d, F3, hd, s3, R3, r3⟩ := R2.turn ok s2 hlt y
        rw [drop_cons hd] at h2
        unfold lcGo bindM at h2
        refine ⟨ra, _, F3, e2, d, R3, r3, ?_⟩
        cases eg2 : g d e2 with
        | err =>
          rw [eg2] at h2
          cases h2
        | exc x e3 =>
          rw [eg2] at h2
          cases h2
        | ok u e3 =>
          rw [eg2] at h2
          simp only at h2
          intro σ4 F4 H4 b4 s4 R4
          have hw4 : wipe σ4 vs = wipe σ vs := by
            rw [b4.wiped hsub]
            apply List.ext_getElem?
            intro j
            by_cases c : j ∈ vs
            · have key : ∀ (τ : St) (us : List Nat), j ∈ us → (wipe τ us)[j]? = if j < τ.length then some none else none := by
                intro τ us
                induction us with
                | nil => intro h; cases h
                | cons u us ih =>
                  intro hj
                  unfold L2.wipe
                  by_cases e : u = j
                  · subst e
                    by_cases l : u < τ.length
                    · rw [if_pos l, List.getElem?_set_self (by rw [wipe_length]; exact l)]
                    · rw [if_neg l, List.getElem?_eq_none (by rw [List.length_set, wipe_length]; omega)]
                  · rw [List.getElem?_set_ne e]
                    exact ih (by
                      rcases List.mem_cons.mp hj with z | z
                      · exact absurd z.symm e
                      · exact z)
              rw [key _ _ c, key _ _ c, wipe_length]
            · rw [wipe_out c]
          refine ⟨hw4, ra, _, F4, e3, R4, ?_⟩
          have sf4 := (s2.trans s3).trans s4
          cases et : t e3 with
          | err =>
            rw [et] at h2
            cases h2
          | exc x e5 =>
            rw [et] at h2
            cases h2
          | ok c e5 =>
            rw [et] at h2
            simp only at h2
            intro b F5 H5 s5 R5 hb
            have hb' : b = c := hb
            subst hb'
            cases b with
            | false =>
              simp only [Bool.false_eq_true, if_false] at h2 ⊢
              have R6 := R5.wipe vs
              rw [hw4] at R6
              exact ⟨F5, _, acc, dacc, sf4.trans s5, R6, ra2.mono ((s3.trans s4).trans s5), hz2, h2⟩
            | true =>
              simp only [if_true] at h2 ⊢
              refine ⟨ra, _, F5, e5, R5, ?_⟩
              try unfold bindM at h2
              cases ee : el e5 with
              | err =>
                rw [ee] at h2
                cases h2
              | exc x e6 =>
                rw [ee] at h2
                cases h2
              | ok y e6 =>
                rw [ee] at h2
                simp only at h2
                intro yv F6 H6 s6 R6 ry
                unfold small at h2
                by_cases hz : (dacc ++ [y]).length ≤ 1000000
                · simp only [if_pos hz] at h2
                  have st : Same F2 F6 := ((s3.trans s4).trans s5).trans s6
                  have rA : RepA w K ra F6 acc dacc := ra2.mono st
                  have hD6 : H6 D = some (.lst acc) := R6.kh D _ (by show upd HK.h D _ D = _; exact upd_same)
                  have l1 : acc.length < sizeLine := by
                    rw [rA.length]
                    rw [List.length_append] at hz
                    have : (1000000 : Nat) ≤ sizeLine := by decide
                    simp at hz
                    omega
                  have R7 := (R6.repin (u' := .lst (acc ++ [yv]))).wipe vs
                  rw [hw4] at R7
                  refine ⟨acc, hD6, l1, F6, _, acc ++ [yv], dacc ++ [y], (sf4.trans s5).trans s6, R7, rA.append (.cons ry .nil), Nat.le_trans hz (by decide), h2⟩
                · simp only [if_neg hz] at h2
                  cases h2
      · have ei : i = ds.length := by omega
        subst ei
        rw [List.drop_length] at h2
        unfold lcGo pureM at h2
        cases h2
        obtain ⟨R3, fD, nD, hD2, nd⟩ := R2.unpin kD hpn
        refine .inl ⟨ok.stop _ F2 H2 s2 R2.fh rfl, ?_⟩
        have R4 := R3.rest R1 s2 hn
        refine q _ F2 H2 (s1.trans s2) R4 ⟨D, rfl, ⟨acc, hD2, ra2⟩, fD, kD, nD, notIn_rest nd hn⟩
  · simp only [if_neg hn] at q
    exact q.elim
section
variable {X : Cx} {W : WX} {elt tg iter : Expr} {ifs : List Expr} {scope : Scope} {own : List (Str × Nat)} {pos : Pos} {mi : M (List D)} {g : D → M Unit} {t : M Bool} {el : M D} {is : List Nat}
theorem pmo_lc (hi : PIM X W tg iter mi)
    (hg : ∀ (s : Shared) (H : Hp) (C : Addr) (cl : List (Str × Addr)) (fp : List Addr), PGM (X.blk s H scope (compEnvC scope cl C X.env) fp) tg is g) (ht : ∀ (s : Shared) (H : Hp) (C : Addr) (cl : List (Str × Addr)) (fp : List Addr), PMTs (X.blk s H scope (compEnvC scope cl C X.env) fp) WN ifs t)
    (he : ∀ (s : Shared) (H : Hp) (C : Addr) (cl : List (Str × Addr)) (fp : List Addr), PM (X.blk s H scope (compEnvC scope cl C X.env) fp) WN elt el) (hc : X.calm = true) (hN : X.N.Nodup) (own : List (Str × Nat)) (ok : blkC X.N X.env.scope scope own = true := by rfl) (hsub : ∀ i ∈ is, i ∈ own.map (·.2) := by decide) (hs : ∀ x, foldedSetIterable iter X.env x = pure x := by intro _; rfl) :
    PMO X W (.ListComp elt [⟨tg, iter, ifs, 0⟩] scope pos) (lcM mi g t el (own.map (·.2))) :=
  PE.weaken (pe_lc (g := tT X.w X.K is g) (tt := tG TB X.w X.K WN t) (te := tG TV X.w X.K WN el) hc hN hi (blkOk_by ok) hg ht he hs) fun σ H Q h => lc_read hsub h
theorem psm_setLc (i : Nat) {y : Str} {py spos : Pos} (hi : PIM X W tg iter mi)
    (hg : ∀ (s : Shared) (H : Hp) (C : Addr) (cl : List (Str × Addr)) (fp : List Addr), PGM (X.blk s H scope (compEnvC scope cl C X.env) fp) tg is g) (ht : ∀ (s : Shared) (H : Hp) (C : Addr) (cl : List (Str × Addr)) (fp : List Addr), PMTs (X.blk s H scope (compEnvC scope cl C X.env) fp) WN ifs t)
    (he : ∀ (s : Shared) (H : Hp) (C : Addr) (cl : List (Str × Addr)) (fp : List Addr), PM (X.blk s H scope (compEnvC scope cl C X.env) fp) WN elt el) (hc : X.calm = true) (hN : X.N.Nodup) (own : List (Str × Nat)) (ok : blkC X.N X.env.scope scope own = true := by rfl) (hsub : ∀ i ∈ is, i ∈ own.map (·.2) := by decide) (hy : X.N[i]? = some y := by rfl) (hyl : X.env.scope.names.lookup y = some .local := by rfl)
    (hsw : swapsWith (.ListComp elt [⟨tg, iter, ifs, 0⟩] scope pos) (some (.Name y py)) spos.line X.env = pure true := by rfl) (hs : ∀ x, foldedSetIterable iter X.env x = pure x := by intro _; rfl) :
    PSM X W (.Assign [.Name y py] (.ListComp elt [⟨tg, iter, ifs, 0⟩] scope pos) spos) (asgO i (lcM mi g t el (own.map (·.2)))) := by
  refine PS.weaken (ps_setLc (g := tT X.w X.K is g) (tt := tG TB X.w X.K WN t) (te := tG TV X.w X.K WN el) hc hN hy hyl hsw hi (blkOk_by ok) hg ht he hs) ?_
  rintro D' σ H ⟨ra, HK, F, e, R, h⟩
  unfold asgO at h
  refine lc_read hsub (stepS R h fun F1 e1 o v H1 s1 R1 r1 q1 => ?_)
  obtain ⟨h1, q2⟩ := wp_setM q1
  exact q2 _ F1 H1 (Same.refl F1) (R1.setOwn h1 r1)
end
end Mi

set_option Elab.async false
set_option linter.all false
set_option maxRecDepth 100000
set_option maxHeartbeats 4000000
/-! Mi, part P: lists of one's own changed; calls; raise. -/
namespace Mi
open PySem PySem.Spec PyProof.Rows L2
section
variable {w : World} {K : PySem.W.Frag} {ra : Addr} {HK : Kp} {F F' H H' : Hp} {e : Env} {σ : St}
/-- a container of one's own is changed -/
theorem Rel.store (R : Rel w K ra HK F e σ H) {i : Nat} {o o' : OD} {a : Addr} {u : HO} (h : e.sl[i]? = some (.own o)) (hs : σ[i]? = some (some (.ref a))) (r : RepO w K ra F (upd H a u) a o') : Rel w K ra HK F { e with sl := e.sl.set i (.own o') } σ (upd H a u) := by
  obtain ⟨a', e1, r0, fa, ka, na⟩ := R.sl i _ h
  rw [hs] at e1
  cases e1
  have hi : i < e.sl.length := (List.getElem?_eq_some_iff.mp h).1
  have hi' : i < σ.length := by rw [← R.len]; exact hi
  have other : ∀ (j : Nat) (s : Slot) (b p : Addr), i ≠ j → e.sl[j]? = some s → s.isC = true → σ[j]? = some (some (.ref b)) → Foot H s b p → p ≠ a := fun j s b p c hj sc eq f z => R.sep i j _ s a b p c h hj rfl sc hs eq (.inl z) f
  have sep2 : Sep { e with sl := e.sl.set i (.own o') } (σ.set i (some (.ref a))) (upd H a u) := by
    have S0 : Sep { e with sl := e.sl.set i (.own o') } (σ.set i (some (.ref a))) H := R.sep.on hi' fun j s' a' p hij h2 c2 hs2 f f2 => by
      rcases f with rfl | ⟨z, _⟩
      · exact other j s' a' _ hij h2 c2 hs2 f2 rfl
      · cases z
    intro j k s1 s2 b b' p hjk h1 h2 c1 c2 h3 h4 f f2
    rw [set_id hs] at h3 h4
    have back : ∀ {m : Nat} {t : Slot} {b : Addr}, (e.sl.set i (.own o'))[m]? = some t → t.isC = true → σ[m]? = some (some (.ref b)) → Foot (upd H a u) t b p → Foot H t b p := fun {m t b} hm tc hb f => by
      by_cases c : i = m
      · subst c
        rw [List.getElem?_set_self hi] at hm
        cases hm
        rcases f with rfl | ⟨z, _⟩
        · exact .inl rfl
        · cases z
      · rw [List.getElem?_set_ne c] at hm
        exact (Foot.congr (upd_ne (other m t b b c hm tc hb (.inl rfl)))).mp f
    exact S0 j k s1 s2 b b' p hjk h1 h2 c1 c2 (by rw [set_id hs]; exact h3) (by rw [set_id hs]; exact h4) (back h1 c1 h3 f) (back h2 c2 h4 f2)
  rw [set_id hs] at sep2
  refine ⟨fun b z q => ?_, fun b z q => ?_, by rw [List.length_set]; exact R.len, fun j s hj => ?_, sep2, R.row.mono (Same.refl F) (upd_ne (Ne.symm na)), R.fra, R.kra, R.pn⟩
  · rw [upd_ne (ne_of_none q fa)]
    exact R.fh b z q
  · rw [upd_ne (ne_of_none q ka)]
    exact R.kh b z q
  · by_cases c : i = j
    · subst c
      rw [List.getElem?_set_self hi] at hj
      cases hj
      exact ⟨a, hs, r, fa, ka, na⟩
    · rw [List.getElem?_set_ne c] at hj
      exact (R.sl j s hj).mono (Same.refl F) fun q hc eq p hf => ⟨upd_ne (other j s q p c hj hc eq hf), rfl⟩
end
/-! ### xs.append(e), xs.extend(e), xs.pop() -/
/-- the name is a list of one's own -/
def ownL (i : Nat) : M (List D) := fun e => match e.sl[i]? with
  | some (.own (.lst l)) => .ok l e
  | _ => .err
theorem wp_ownL {β : Type} {i : Nat} {g : List D → M β} {e : Env} {A : β → Env → Prop} {B : Exn → Env → Prop} (h : (bindM (ownL i) g e).wp A B) : ∃ l, e.sl[i]? = some (.own (.lst l)) ∧ (g l e).wp A B := by
  unfold bindM ownL at h
  cases q : e.sl[i]? with
  | none =>
    simp only [q] at h
    exact h.elim
  | some s =>
    cases s with
    | own o =>
      cases o with
      | lst l =>
        simp only [q] at h
        exact ⟨l, rfl, h⟩
      | dct l =>
        simp only [q] at h
        exact h.elim
    | _ =>
      simp only [q] at h
      exact h.elim
def appM (i : Nat) (m : M D) : M Fl := bindM (ownL i) fun _ => bindM m fun d => bindM (ownL i) fun l => bindM (small (l ++ [d])) fun _ => bindM (setM i (.own (.lst (l ++ [d])))) fun _ => pureM .nx
def extM (i : Nat) (m : M D) : M Fl := bindM (ownL i) fun _ => bindM m fun d => match d with
  | .lst k => bindM (ownL i) fun l => bindM (small (l ++ k)) fun _ => bindM (setM i (.own (.lst (l ++ k)))) fun _ => pureM .nx
  | _ => errM
section
variable {X : Cx} {W : WX} {e : Expr} {m : M D} {pos apos cpos p : Pos} {x : Str}
theorem psm_append (i : Nat) (hm : PM X W e m) (hN : X.N[i]? = some x := by rfl) (hv : Vis X.env.scope x := by first | exact Or.inl rfl | exact Or.inr (Or.inl rfl) | exact Or.inr (Or.inr rfl)) (hd : (x == ("__debug__" : Str)) = false := by decide) (hcd : (x == ("__classdict__" : Str)) = false := by decide)
    (hbase : attributeBase (.Name x p) "append" X.env (eval (.Name x p) X.env) = eval (.Name x p) X.env := by rfl)
    (hfew : ((backTo cpos (starEach [e] X.env)).all (fun x => !x.1) && (backToKw cpos (keywordEach [] X.env)).all (fun x => x.1.isSome)
      && decide ([e].length + ([] : List Keyword).length + (if ([] : List Keyword).isEmpty then 0 else 1) < 30)) = true := by rfl)
    (hline : (apos.endLine == cpos.line) = true := by rfl) (hs : starEach [e] X.env = (false, eval e X.env) :: starEach [] X.env := by rfl) (hplain : (backTo cpos (starEach [] X.env)).any (·.1) = false := by rfl)
    (hsw : swapsWith (.Call (.Attribute (.Name x p) "append" apos) [e] [] cpos) none pos.line X.env = pure false := by rfl) : PSM X W (.Expr (.Call (.Attribute (.Name x p) "append" apos) [e] [] cpos) pos) (appM i m) := by
  refine PS.weaken (ps_expr (pe_bm PySem.F.plainAttrs_list PySem.F.slot_list_append PySem.F.type_list_append mt_append (pe_var hN hv hd hcd) (pa_cons hm pa_nil hs) hbase hfew hline hs hplain) hsw) ?_
  rintro D' σ H ⟨ra, HK, F, e, R, h⟩
  unfold appM at h
  obtain ⟨l, q, h1⟩ := wp_ownL h
  obtain ⟨a, e1, ⟨vs, hH, rp⟩, _⟩ := R.sl i _ q
  refine ⟨.ref a, e1, .inl ⟨rfl, vs, .of hH⟩, ?_⟩
  refine stepS R h1 fun F1 e1' d u H1 s1 R1 r1 q1 => ?_
  obtain ⟨l2, q2, h2⟩ := wp_ownL q1
  obtain ⟨hz, h3⟩ := wp_small h2
  obtain ⟨hl, h4⟩ := wp_setM h3
  obtain ⟨a2, e2, ⟨vs2, hH2, rp2⟩, _⟩ := R1.sl i _ q2
  rw [e1] at e2
  cases e2
  refine ⟨a, vs2, u, rfl, rfl, hH2, ?_, h4 _ F1 _ (Same.refl F1) (R1.store q2 e1 ⟨_, upd_same, rp2.append (.cons r1 .nil)⟩)⟩
  rw [rp2.length]
  rw [List.length_append] at hz
  exact hz
end
/-! ### calls -/
inductive FRes where
  | ret (d : D) (r : RowS) | exc (x : Exn) (r : RowS) | err
/-- what a def is to the mirror -/
abbrev FnM : Type := List D → RowS → FRes
/-- a state behind a call -/
structure Aft (ra : Addr) (F H F' H' : Hp) (row' : RowS) : Prop where
  f : Same F F'
  fh : Same F' H'
  fra : F' ra = none
  row : RowOk ra F' H' row'
  kept : ∀ b u, H b = some u → b ≠ ra → H' b = some u
  pn : ∀ b, H b ≠ none → F b = none → F' b = none
def spM (w : World) (K : PySem.W.Frag) (n : Nat) (f : FnM) : Sp := fun vs H Q E => ∃ ra F ds row, Same F H ∧ F ra = none ∧ RowOk ra F H row ∧ RepA w K ra F vs ds ∧ ds.length = n ∧ (match f ds row with
  | .ret d row' => ∀ F' H' v, Aft ra F H F' H' row' → Rep w K ra F' v d → Q v H'
  | .exc x row' => ∀ F' H' cls dd, Aft ra F H F' H' row' → ExIs w K ra F' H' x cls dd → E cls dd H'
  | .err => False)
/-- a body as a function: k more names behind the n parameters -/
def fnM (k : Nat) (b : M Fl) : FnM := fun ds row => match b ⟨ds.map Slot.val ++ List.replicate k .no, row⟩ with
  | .ok (.rt d) e => .ret d e.row
  | .ok .nx e => .ret .non e.row
  | .ok _ _ => .err
  | .exc x e => .exc x e.row
  | .err => .err
structure Fn (P : Program) (w : World) (K : PySem.W.Frag) (mg : Str → Option Value) (base : Heap) (x : Str) (k n : Nat) (g : FnM) : Prop where
  ex : ∃ f fd ps, FnOk P w K mg base (L2.CX P w) k f fd ps (spM w K n g) ∧ mg x = some (.ref f) ∧ PySem.W.keepIn K (.ref f) = true ∧ Binds K fd ps []
theorem Fn.mono {P : Program} {w : World} {K : PySem.W.Frag} {mg : Str → Option Value} {base : Heap} {x : Str} {k k' n : Nat} {g : FnM} (F : Fn P w K mg base x k n g) (h : k ≤ k') : Fn P w K mg base x k' n g :=
  let ⟨f, fd, ps, F1, a, b, c⟩ := F.ex
  ⟨f, fd, ps, F1.mono h, a, b, c⟩
def callM (f : FnM) (r : M (List D)) : M D := bindM r fun ds e => match f ds e.row with
  | .ret d row' => .ok d { e with row := row' }
  | .exc x row' => .exc x { e with row := row' }
  | .err => .err
theorem Rel.after {w : World} {K : PySem.W.Frag} {ra : Addr} {HK : Kp} {F F' H H' : Hp} {e : Env} {σ : St} {row' : RowS} (R : Rel w K ra HK F e σ H) (a : Aft ra F H F' H' row') : Rel w K ra HK F' { e with row := row' } σ H' := by
  have kp : ∀ b, F b = none ∧ HK.h b = none ∧ b ≠ ra ∧ H b ≠ none → H' b = H b := fun b hb => by
    cases ez : H b with
    | none => exact absurd ez hb.2.2.2
    | some u => exact a.kept b u ez hb.2.2.1
  refine ⟨a.fh, fun b u q => a.kept b u (R.kh b u q) (fun z => by rw [z, R.kra] at q; cases q), R.len, fun i s h => ?_, R.sep.heap fun i s b h c hs => kp b (R.foot h c hs (.inl rfl)), a.row, a.fra, R.kra, fun b hb => ⟨(R.pn b hb).1, ?_⟩⟩
  · refine (R.sl i s h).mono a.f fun q hc eq p hf => ?_
    have g := R.foot h hc eq hf
    refine ⟨kp p g, ?_⟩
    rw [g.1]
    exact a.pn p g.2.2.2 g.1
  · refine a.pn b ?_ (R.pn b hb).2
    cases ez : HK.h b with
    | none => exact absurd ez (R.pn b hb).1
    | some u =>
      rw [R.kh b u ez]
      exact fun z => by cases z
section
variable {X : Cx} {W : WX} {x : Str} {k k' n : Nat} {g : FnM} {e : Expr} {es : List Expr} {p pos : Pos} {r : M (List D)}
theorem call_read {n : Nat} {ta : TA} {te : TE} {σ : St} {H : Hp} {Q : VK} (h : tG TV X.w X.K W (callM g r) σ H Q) (hn : ∀ e ds e', r e = .ok ds e' → ds.length = n) : tCallS (spM X.w X.K n g) (WE W) (tG TAs X.w X.K W r) σ H Q := by
  obtain ⟨ra, HK, F, e, R, h⟩ := h
  unfold callM at h
  have h0 := wp_bind.mp h
  refine ⟨ra, HK, F, e, R, ?_⟩
  cases er : r e with
  | err =>
    rw [er] at h0
    exact h0
  | exc x e1 =>
    rw [er] at h0
    exact h0
  | ok ds e1 =>
    rw [er] at h0
    intro vs F1 H1 s1 R1 r1
    refine ⟨ra, F1, ds, e1.row, R1.fh, R1.fra, R1.row, r1, hn _ _ _ er, ?_⟩
    have h1 : Res.wp (match g ds e1.row with
      | .ret d row' => Res.ok d { e1 with row := row' }
      | .exc x row' => Res.exc x { e1 with row := row' }
      | .err => Res.err) (okG TV X.w X.K ra HK F σ Q) (exW X.w X.K ra HK F W) := h0
    cases eg : g ds e1.row with
    | err =>
      rw [eg] at h1
      exact h1
    | ret d row' =>
      rw [eg] at h1
      exact fun F' H' v a rv => h1 v F' H' (s1.trans a.f) (R1.after a) rv
    | exc x row' =>
      rw [eg] at h1
      exact fun F' H' cls dd a hx => h1 cls dd σ F' H' (s1.trans a.f) (R1.after a) hx
theorem pm_call (F : Fn X.prog X.w X.K X.mg X.base x k n g) (hr : Room k' X.A) (tk : Takes X W) (ha : PMA X W (e :: es) r) (hn : ∀ e ds e', r e = .ok ds e' → ds.length = n) (hk : k ≤ k' := by decide) (hg : Gl X x := by rfl)
    (hdb : (x == ("__debug__" : Str)) = false := by decide) (he : starEach (e :: es) X.env = (false, eval e X.env) :: starEach es X.env := by rfl) (hpl : (backTo pos (starEach es X.env)).any (·.1) = false := by rfl) : PM X W (.Call (.Name x p) (e :: es) [] pos) (callM g r) := by
  obtain ⟨f, fd, ps, F1, hm, kp, hb⟩ := F.ex
  exact PE.weaken (pe_callS F1 (hr.mono hk) hg hm kp hb (fun σ => passAt tk σ) ha hdb he hpl) fun σ H Q h => call_read (ta := tG TAs X.w X.K W r) (te := fun _ _ _ => False) h hn
theorem nil_len : ∀ (e : Env) (ds : List D) (e' : Env), (pureM [] : M (List D)) e = .ok ds e' → ds.length = 0 := fun e ds e' h => by
  cases h
  rfl
theorem cons_len {m : M D} {r : M (List D)} {n : Nat} (h : ∀ e ds e', r e = .ok ds e' → ds.length = n) : ∀ e ds e', consM m r e = .ok ds e' → ds.length = n + 1 := fun e ds e' hc => by
  unfold consM bindM at hc
  cases em : m e with
  | err =>
    rw [em] at hc
    cases hc
  | exc x e1 =>
    rw [em] at hc
    cases hc
  | ok d e1 =>
    rw [em] at hc
    simp only at hc
    cases er : r e1 with
    | err =>
      rw [er] at hc
      cases hc
    | exc x e2 =>
      rw [er] at hc
      cases hc
    | ok l e2 =>
      rw [er] at hc
      cases hc
      rw [List.length_cons, h _ _ _ er]
end
/-! ### a def's promise -/
section
variable {P : Program} {w : World} {K : PySem.W.Frag} {mg : Str → Option Value} {base : Heap} {x qual : Str} {params : Arguments} {body : List Stmt} {scope : Scope} {kws : List (Str × V)} {f : Addr} {fd : FuncData}
/-- the state at a def's entry -/
theorem rel_start {ra : Addr} {F H : Hp} {N : List Str} {vs : List V} {ds : List D} {row : RowS} (hf : Same F H) (fra : F ra = none) (ro : RowOk ra F H row) (rp : RepA w K ra F vs ds) (k : Nat) (hk : N.length - vs.length = k) :
    Rel w K ra ⟨fun b => if b = ra then none else H b, fun b => H b ≠ none ∧ F b = none ∧ b ≠ ra, .non⟩ F ⟨ds.map Slot.val ++ List.replicate k .no, row⟩ (L2.start N vs) H := by
  subst hk
  have nown : ∀ (i : Nat) (o : Slot), o.isC = true → (ds.map Slot.val ++ List.replicate (N.length - vs.length) Slot.no)[i]? ≠ some o := fun i o hc h => by
    rw [List.getElem?_append] at h
    split at h
    · rw [List.getElem?_map] at h
      cases q : ds[i]? with
      | none =>
        rw [q] at h
        cases h
      | some d =>
        rw [q] at h
        cases h
        cases hc
    · rw [List.getElem?_replicate] at h
      split at h
      · cases h
        cases hc
      · cases h
  refine ⟨hf, fun b u q => ?_, ?_, fun i s h => ?_, fun i j o o' a a' p _ h _ c _ _ _ => absurd h (nown i o c), ro, fra, if_pos rfl, fun b hb => ⟨?_, hb.2.1⟩⟩
  · by_cases c : b = ra
    · simp only [if_pos c] at q
      cases q
    · simp only [if_neg c] at q
      exact q
  · simp [L2.start, rp.length]
  · have h' : (ds.map Slot.val ++ List.replicate (N.length - vs.length) Slot.no)[i]? = some s := h
    rw [List.getElem?_append] at h'
    split at h'
    · rename_i hl
      rw [List.getElem?_map] at h'
      cases q : ds[i]? with
      | none =>
        rw [q] at h'
        cases h'
      | some d =>
        rw [q] at h'
        cases h'
        obtain ⟨v, hv, rv⟩ := rp.get q
        refine ⟨v, ?_, rv⟩
        unfold L2.start
        have hvl : i < vs.length := (List.getElem?_eq_some_iff.mp hv).1
        rw [List.getElem?_append_left (by simpa using hvl), List.getElem?_map, hv]
        rfl
    · rw [List.getElem?_replicate] at h'
      split at h'
      · cases h'
        trivial
      · cases h'
  · show (if b = ra then none else H b) ≠ none
    rw [if_neg hb.2.2]
    exact hb.1
theorem aft_of {ra : Addr} {F H F' H' : Hp} {e' : Env} {σ' : St} {p : V} (R' : Rel w K ra ⟨fun b => if b = ra then none else H b, fun b => H b ≠ none ∧ F b = none ∧ b ≠ ra, p⟩ F' e' σ' H') (s : Same F F') : Aft ra F H F' H' e'.row where
  f := s
  fh := R'.fh
  fra := R'.fra
  row := R'.row
  kept := fun b u q hb => R'.kh b u (by show (if b = ra then none else H b) = some u; rw [if_neg hb]; exact q)
  pn := fun b h1 h2 => by
    by_cases c : b = ra
    · rw [c]
      exact R'.fra
    · exact (R'.pn b ⟨h1, h2, c⟩).2
/-- THE RULE for a def -/
theorem fn_ok {N ps : List Str} {k n j : Nat} {b : M Fl} (FD : FunD K x qual params body scope [] kws f fd) (S : FnScope N ps scope) (hm : mg x = some (.ref f)) (hb : Binds K fd ps []) (hn : ps.length = n) (hj : N.length - n = j)
    (hbody : ∀ (cdv : Value) (A : Around) (outer : List PySem.Env) (s : Shared) (H : Hp) (E : XK), Room k (A.deeper (envOfC qual scope s.heap.objs.size f cdv)) → Takes (cxOf (L2.CX P w) P w K mg base N qual scope f cdv A outer s H E) (fun cls d _ H' => E cls d H') →
      PSsM (cxOf (L2.CX P w) P w K mg base N qual scope f cdv A outer s H E) (fun cls d _ H' => E cls d H') body b) : Fn P w K mg base x (k + 1) n (fnM j b) := by
  refine ⟨f, fd, ps, FD.ok S (fun vs H Q E h => ?_) (fun cdv A outer s H vs Q E hr h => ?_), hm, FD.kp, hb⟩
  · obtain ⟨ra, F, ds, row, _, _, _, rp, hl, _⟩ := h
    rw [rp.length, hl, hn]
  · have tk : Takes (cxOf (L2.CX P w) P w K mg base N qual scope f cdv A outer s H E) (fun cls d _ H' => E cls d H') := takes_of rfl rfl rfl rfl
    refine ⟨_, hbody cdv A outer s H E hr tk, ?_⟩
    obtain ⟨ra, F, ds, row, hf, fra, ro, rp, hl, h⟩ := h
    have R := rel_start (N := N) hf fra ro rp j (by rw [rp.length, hl]; exact hj)
    refine ⟨ra, _, F, _, R, ?_⟩
    unfold fnM at h
    show Res.wp _ _ _
    cases eb : b ⟨ds.map Slot.val ++ List.replicate j .no, row⟩ with
    | err =>
      rw [eb] at h
      exact h
    | exc y e' =>
      rw [eb] at h
      exact fun cls d σ' F' H' s' R' hx => h F' H' cls d (aft_of R' s') hx
    | ok fl e' =>
      rw [eb] at h
      intro σ' F' H' s' R'
      cases fl with
      | nx => exact h F' H' .non (aft_of R' s') .non
      | rt d => exact fun v rv => h F' H' v (aft_of R' s') rv
      | bk => exact h.elim
      | ct => exact h.elim
end
/-! ### raise -/
/-- an own class of errors without an own __init__ -/
structure ExcF (K : PySem.W.Frag) (mg : Str → Option Value) (x : Str) : Prop where
  q : PySem.W.excIn K (He.ga K x) He.veBase "ValueError.__new__" = true
  kC : PySem.W.keepIn K (.ref (He.ga K x)) = true
  sb : PySem.W.subIn K (.ref (He.ga K x)) (.type "BaseException") = some true
  ty : PySem.W.typeIn K (.ref (He.ga K x)) = some (.type "type")
  g : mg x = some (.ref (He.ga K x))
section
variable {X : Cx} {W : WX} {x : Str} {p pos pos2 : Pos}
theorem pmk_own0 (F : ExcF X.K X.mg x) (hg : Gl X x) (hdb : (x == ("__debug__" : Str)) = false := by decide) : PMk X (.Call (.Name x p) [] [] pos) (fun _ H Q => Q (.ref (He.ga X.K x)) none H) := by
  intro pins s σ H Q I h
  refine wpAny_Call_Name_kw (ld_glob I hg F.g ?_ hdb)
  refine PySem.W.callWith_K0 I.kIn F.kC ?_
  show wpAny _ _ (call (.ref (He.ga X.K x)) []) _ _ _
  obtain ⟨bm, N, nm, qn, bs, hdct, sn, sub, ab, col, dd, k0, k1, k2, k3, k5, mN, hC, hN, hni, T⟩ := exc_obj I.kIn F.q
  refine wpAny_call_exc_subT PySem.F.excBase_ValueError T hC hN hni (fun h' e hm => ?_) (Nat.zero_le _)
  exact mk_of I hm (raises_own F.sb F.ty) h (I.hok.gone hm.new)
def raiseM (c : Str) : M Fl := fun e => .exc ⟨c, []⟩ e
theorem psm_raise0 (F : ExcF X.K X.mg x) (tk : Takes X W) (hc : X.calm = true := by rfl) (hg : Gl X x := by rfl) (hdb : (x == ("__debug__" : Str)) = false := by decide) : PSM X W (.Raise (some (.Call (.Name x p) [] [] pos)) none pos2) (raiseM x) := by
  refine PS.weaken (ps_raise hc tk (pmk_own0 F hg hdb)) ?_
  rintro D' σ H ⟨ra, HK, F1, e, R, h⟩
  exact h _ none σ F1 H (Same.refl F1) R ⟨rfl, .inl ⟨rfl, rfl⟩⟩
end
end Mi

set_option Elab.async false
set_option linter.all false
set_option maxRecDepth 100000
set_option maxHeartbeats 4000000
/-! Mi, part Q: Rule(..), try, dead code. -/
namespace Mi
open PySem PySem.Spec PyProof.Rows L2
section
variable {X : Cx} {W : WX}
/-! ### what is never reached -/
theorem pm_dead {e : Expr} : PM X W e errM := ⟨fun pins s σ H Q I h => by
  obtain ⟨ra, HK, F, e, R, h⟩ := h
  exact h.elim⟩
/-! ### Rule(..) -/
/-- a def's body of which the end is told by hand -/
theorem pssi_nil {stores : List Stmt} {u : TS} (h : PSs X stores u) : PSs X stores (fun D' σ H => tS X.w X.K W nxM { D' with nx := u D' } σ H) := ⟨fun pins s σ H D' I hw => by
  obtain ⟨ra, HK, F, e, R, hw⟩ := hw
  exact h.run pins s σ H D' I (hw σ F H (Same.refl F) R)⟩
theorem pssi_cons {st : Stmt} {rest : List Stmt} {m n : M Fl} {u : TS} (h1 : PSM X W st m) (h2 : PSs X rest (fun D' σ H => tS X.w X.K W n { D' with nx := u D' } σ H)) : PSs X (st :: rest) (fun D' σ H => tS X.w X.K W (seqM m n) { D' with nx := u D' } σ H) := by
  refine PSs.weaken (pss_cons h1 h2) ?_
  rintro D' σ H ⟨ra, HK, F, e, R, h⟩
  unfold seqM at h
  refine ⟨ra, HK, F, e, R, wp_mono (wp_bind.mp h) (fun fl e' q σ' F' H' s R' => ?_) fun _ _ q => q⟩
  cases fl with
  | nx => exact ⟨ra, HK, F', e', R', wp_mono q (fun _ _ z => okS_mono s z) fun _ _ z => exW_mono s z⟩
  | bk => exact q σ' F' H' s R'
  | ct => exact q σ' F' H' s R'
  | rt d => exact q σ' F' H' s R'
end
/-- what a Rule's __init__ keeps: vs 0 is the new object -/
def spI (w : World) (K : PySem.W.Frag) (f : FnM) : Sp := fun vs H Q E => ∃ ra F ds row x dx us, vs = .ref x :: us ∧ Same F H ∧ F ra = none ∧ RowOk ra F H row ∧ RepA w K ra F us ds ∧ ds.length = 5 ∧
  H x = some (.ins (He.ga K "Rule") dx []) ∧ F x = none ∧ x ≠ ra ∧ (match f ds row with
  | .ret (.obj es) row' => ∀ F' H' H'' us', Aft ra F H F' H' row' → RepA w K ra F' us' es → us'.length = 5 → H'' x = some (.ins (He.ga K "Rule") dx (ruleF us')) → (∀ b, b ≠ x → H'' b = H' b) → Q .non H''
  | .ret _ _ => False
  | .exc y row' => ∀ F' H' cls dd, Aft ra F H F' H' row' → ExIs w K ra F' H' y cls dd → E cls dd H'
  | .err => False)
/-- the body, but for the stores -/
def initEnd (sl : List Slot) : Option (List D) := match sl with
  | .pin :: .val d1 :: .val d2 :: .val d3 :: .val d4 :: .val d5 :: _ => some [d1, d2, d3, d4, d5]
  | _ => none
theorem initEnd_inv {sl : List Slot} {l : List D} (h : initEnd sl = some l) : ∃ d1 d2 d3 d4 d5 r, sl = .pin :: .val d1 :: .val d2 :: .val d3 :: .val d4 :: .val d5 :: r ∧ l = [d1, d2, d3, d4, d5] := by
  unfold initEnd at h
  split at h
  · cases h
    exact ⟨_, _, _, _, _, _, rfl, rfl⟩
  · cases h
def initM (b : M Fl) : FnM := fun ds row => match b ⟨.pin :: ds.map Slot.val ++ [.no, .no], row⟩ with
  | .ok .nx e => (match initEnd e.sl with
    | some l => .ret (.obj l) e.row
    | none => .err)
  | .ok _ _ => .err
  | .exc x e => .exc x e.row
  | .err => .err
structure MkF (P : Program) (w : World) (K : PySem.W.Frag) (mg : Str → Option Value) (base : Heap) (k : Nat) (g : FnM) : Prop where
  ex : ∃ f fd ps, FnOk P w K mg base (L2.CX P w) k f fd ps (spI w K g) ∧ mg "Rule" = some (.ref (He.ga K "Rule")) ∧ Binds K fd ps [] ∧ Mk K (He.ga K "Rule") f
section
variable {X : Cx} {W : WX} {k k' : Nat} {g : FnM} {e : Expr} {es : List Expr} {p pos : Pos} {r : M (List D)}
theorem run_makeS {CX : CXT} {f C : Addr} {fd : FuncData} {ps : List Str} {sp : Sp} {E : St → XK} {pins : List (Addr × Obj)} {σ : L2.St} {H : Hp} {s : Shared} {Q : VK} {us : List Value} {vs : List V} (M : Mk X.K C f) (F1 : FnOk X.prog X.w X.K X.mg X.base CX k f fd ps sp) (hr : Room (k + 1) X.A) (hb : Binds X.K fd ps [])
    (hx : PassesAt CX X σ (E σ)) (I : Inv X pins σ H s) (r : Vals vs us)
    (h : ∀ x dx, H x = none → H dx = none → dx ≠ x → sp (.ref x :: vs) (upd (upd H dx (.own x)) x (.ins C dx [])) (fun v H2 => v = .non ∧ Q (.ref x) H2) (E σ)) :
    wpAny (model X.prog X.w) X.A (call (.ref C) us) (EP X pins σ Q) X.xe s := by
  have hq := h (s.heap.objs.size + 1) s.heap.objs.size (I.hok.fresh (Nat.le_succ _)) (I.hok.fresh (Nat.le_refl _)) (Nat.ne_of_lt (Nat.lt_succ_self _))
  have J := Inv.made (C := C) I
  have rr : Vals (V.ref (s.heap.objs.size + 1) :: vs) (Value.ref (s.heap.objs.size + 1) :: us) := .cons rfl r
  have el : (Value.ref (s.heap.objs.size + 1) :: us ++ []).length = ps.length := by rw [List.append_nil, ← rr.length, F1.len _ _ _ _ hq]
  have bb := hb _ (Value.ref (s.heap.objs.size + 1) :: us) J.kIn el
  rw [List.append_nil] at bb
  refine wpAny_call (make_map (f := f) I.kIn M.makes M.init (beq_iff_eq.mp M.fn) (codeAny_mono (F1.run _ X.stack _ _ ⟨Value.ref (s.heap.objs.size + 1) :: us, []⟩ (Value.ref (s.heap.objs.size + 1) :: us) _ _ (E σ) (hr.make C us []) (J.env0.make C us []) bb rr hq) fun z s' hz => ?_))
  cases z with
  | error er => exact hx pins _ _ er s' J hz
  | ok fl =>
    cases fl with
    | ret u =>
      obtain ⟨v, H', J3, rv, ev, q3⟩ := J.after hz
      subst ev
      exact ⟨rv, ⟨V.ref (s.heap.objs.size + 1), H', J3, rfl, q3⟩⟩
    | next => exact False.elim hz
    | brk => exact False.elim hz
    | cont => exact False.elim hz
theorem pm_make (F0 : MkF X.prog X.w X.K X.mg X.base k g) (hr : Room k' X.A) (tk : Takes X W) (ha : PMA X W (e :: es) r) (hn : ∀ e ds e', r e = .ok ds e' → ds.length = 5) (hret : ∀ ds row d row', g ds row = .ret d row' → ∃ l, d = .obj l) (hk : k + 1 ≤ k' := by decide) (hg : Gl X "Rule" := by rfl)
    (he : starEach (e :: es) X.env = (false, eval e X.env) :: starEach es X.env := by rfl) (hpl : (backTo pos (starEach es X.env)).any (·.1) = false := by rfl) : PM X W (.Call (.Name "Rule" p) (e :: es) [] pos) (callM g r) := by
  obtain ⟨f, fd, ps, F1, hm, hb, M⟩ := F0.ex
  refine ⟨fun pins s σ H Q I h => ?_⟩
  refine wpAny_Call_Name_kw (ld_glob I hg hm ?_ (by decide))
  obtain ⟨ra, HK, F, e0, R, h⟩ := h
  unfold callM at h
  have h0 := wp_bind.mp h
  have key : tG TAs X.w X.K W r σ H fun vs H1 => ∀ x dx, H1 x = none → H1 dx = none → dx ≠ x → spI X.w X.K g (.ref x :: vs) (upd (upd H1 dx (.own x)) x (.ins (He.ga X.K "Rule") dx [])) (fun v H2 => v = .non ∧ Q (.ref x) H2) (WE W σ) := by
    refine ⟨ra, HK, F, e0, R, ?_⟩
    cases er : r e0 with
    | err =>
      rw [er] at h0
      exact h0
    | exc x e1 =>
      rw [er] at h0
      exact h0
    | ok ds e1 =>
      rw [er] at h0
      intro vs F1 H1 s1 R1 r1 x dx hx hdx hne
      have fx : F1 x = none := R1.fh.free hx
      have fdx : F1 dx = none := R1.fh.free hdx
      have nra : x ≠ ra := fun z => R1.ra_some (by rw [← z]; exact hx)
      have ndx : dx ≠ ra := fun z => R1.ra_some (by rw [← z]; exact hdx)
      have hS : Same F1 (upd (upd H1 dx (.own x)) x (.ins (He.ga X.K "Rule") dx [])) := fun b u q => by
        rw [upd_ne (ne_of_none q fx), upd_ne (ne_of_none q fdx)]
        exact R1.fh b u q
      have rowS : RowOk ra F1 (upd (upd H1 dx (.own x)) x (.ins (He.ga X.K "Rule") dx [])) e1.row := R1.row.mono (Same.refl F1) (by rw [upd_ne nra.symm, upd_ne ndx.symm])
      have oldS : ∀ b u, H1 b = some u → (upd (upd H1 dx (.own x)) x (.ins (He.ga X.K "Rule") dx [])) b = some u := fun b u q => by
        rw [upd_ne (ne_of_none q hx), upd_ne (ne_of_none q hdx)]
        exact q
      refine ⟨ra, F1, ds, e1.row, x, dx, vs, rfl, hS, R1.fra, rowS, r1, hn _ _ _ er, upd_same, fx, nra, ?_⟩
      have aft1 : ∀ {F' H' row'}, Aft ra F1 (upd (upd H1 dx (.own x)) x (.ins (He.ga X.K "Rule") dx [])) F' H' row' → Aft ra F1 H1 F' H' row' := fun {F' H' row'} a =>
        ⟨a.f, a.fh, a.fra, a.row, fun b u q nb => a.kept b u (oldS b u q) nb, fun b h1 h2 => a.pn b (by
          cases ez : H1 b with
          | none => exact absurd ez h1
          | some u =>
            rw [oldS b u ez]
            exact fun z => by cases z) h2⟩
      have h1 : Res.wp (match g ds e1.row with
        | .ret d row' => Res.ok d { e1 with row := row' }
        | .exc x row' => Res.exc x { e1 with row := row' }
        | .err => Res.err) (okG TV X.w X.K ra HK F σ Q) (exW X.w X.K ra HK F W) := h0
      cases eg : g ds e1.row with
      | err =>
        rw [eg] at h1
        exact h1
      | exc y row' =>
        rw [eg] at h1
        exact fun F' H' cls dd a hx => h1 cls dd σ F' H' (s1.trans a.f) (R1.after (aft1 a)) hx
      | ret d row' =>
        rw [eg] at h1
        obtain ⟨l, rfl⟩ := hret _ _ _ _ eg
        intro F' H' H'' us' a hra hl hx2 hoth
        have fx' : F' x = none := a.pn x (by rw [upd_same]; exact fun z => by cases z) fx
        have b := aft1 a
        have a2 : Aft ra F1 H1 (upd F' x (.ins (He.ga X.K "Rule") dx (ruleF us'))) H'' row' := by
          refine ⟨b.f.trans (same_new fx'), fun c u q => ?_, by rw [upd_ne nra.symm]; exact b.fra, b.row.mono (same_new fx') (hoth ra nra.symm), fun c u q nc => ?_, fun c h2 h3 => ?_⟩
          · by_cases hc : c = x
            · rw [hc, upd_same] at q
              rw [hc, hx2]
              exact q
            · rw [upd_ne hc] at q
              rw [hoth c hc]
              exact b.fh c u q
          · rw [hoth c (ne_of_none q hx)]
            exact b.kept c u q nc
          · rw [upd_ne fun z => h2 (by rw [z]; exact hx)]
            exact b.pn c h2 h3
        exact ⟨rfl, h1 (.ref x) _ H'' (s1.trans a2.f) (R1.after a2) (.obj upd_same hl (hra.mono (same_new fx')))⟩
  refine PySem.W.callWith_K (h₀ := X.base) I.ok.mod.kin M.kp (thn (ha.run pos pins s σ H _ I key) fun us s1 ⟨vs, H1, I1, r1, q⟩ => ⟨I1.kIn, ?_⟩) he hpl
  exact run_makeS (E := WE W) M F1 (hr.mono hk) hb (passAt tk σ) I1 r1 q
end
/-! ### the stores of __init__ -/
section
variable {X : Cx} {p1 p2 p3 p4 : Pos}
/-- self.f = name -/
def sStore (K : PySem.W.Frag) (f : Str) (j : Nat) (u : Ends → L2.St → Hp → Prop) : TS := fun D' σ H => ∃ x dx fs v, σ[0]? = some (some (.ref x)) ∧ σ[j]? = some (some v) ∧ H x = some (.ins (He.ga K "Rule") dx fs) ∧ fs.length < 1000 ∧ u D' σ (upd H x (.ins (He.ga K "Rule") dx (putF f v fs)))
theorem ps_store1 {f n self : Str} (j : Nat) (cl : Cls X.K (He.ga X.K "Rule")) (na : NoAttr X.K (He.ga X.K "Rule") f) (h0 : X.N[0]? = some self := by rfl) (hv0 : Vis X.env.scope self := by first | exact Or.inl rfl | exact Or.inr (Or.inl rfl) | exact Or.inr (Or.inr rfl))
    (hj : X.N[j]? = some n := by rfl) (hv : Vis X.env.scope n := by first | exact Or.inl rfl | exact Or.inr (Or.inl rfl) | exact Or.inr (Or.inr rfl)) (hd0 : (self == ("__debug__" : Str)) = false := by decide) (hcd0 : (self == ("__classdict__" : Str)) = false := by decide)
    (hd : (n == ("__debug__" : Str)) = false := by decide) (hcd : (n == ("__classdict__" : Str)) = false := by decide) (hs : swapsWith (.Name n p1) (some (.Attribute (.Name self p2) f p3)) p4.line X.env = pure false := by rfl) :
    PS X (.Assign [.Attribute (.Name self p2) f p3] (.Name n p1) p4) (sStore X.K f j fun D' σ H => D'.nx σ H) := by
  refine PS.weaken (ps_fld (pe_var h0 hv0 hd0 hcd0) (pe_var hj hv hd hcd) hs) ?_
  rintro D' σ H ⟨x, dx, fs, v, e0, ej, hx, hl, q⟩
  exact ⟨v, ej, .ref x, e0, x, _, dx, fs, rfl, hx, cl, na, hl, q⟩
theorem upd_upd (H : Hp) (a : Addr) (u v : HO) : upd (upd H a u) a v = upd H a v := by
  funext b
  unfold upd
  by_cases c : b = a
  · simp [c]
  · simp [c]
theorem putF_len (f : Str) (v : V) : ∀ fs : List (Str × V), (putF f v fs).length ≤ fs.length + 1
  | [] => Nat.le_refl _
  | (g, x) :: r => by
    unfold putF
    split
    · exact Nat.le_succ _
    · exact Nat.succ_le_succ (putF_len f v r)
/-- the five -/
def tStores (K : PySem.W.Frag) : TS := fun D' σ H => ∃ x dx v1 v2 v3 v4 v5, σ[0]? = some (some (.ref x)) ∧ σ[1]? = some (some v1) ∧ σ[2]? = some (some v2) ∧ σ[3]? = some (some v3) ∧ σ[4]? = some (some v4) ∧ σ[5]? = some (some v5) ∧ H x = some (.ins (He.ga K "Rule") dx []) ∧
  D'.nx σ (upd H x (.ins (He.ga K "Rule") dx (ruleF [v1, v2, v3, v4, v5])))
theorem pss_stores {s1 s2 s3 s4 s5 : Stmt} (h1 : PS X s1 (sStore X.K "many" 1 fun D' σ H => D'.nx σ H)) (h2 : PS X s2 (sStore X.K "wide" 2 fun D' σ H => D'.nx σ H)) (h3 : PS X s3 (sStore X.K "rows" 3 fun D' σ H => D'.nx σ H))
    (h4 : PS X s4 (sStore X.K "low" 4 fun D' σ H => D'.nx σ H)) (h5 : PS X s5 (sStore X.K "high" 5 fun D' σ H => D'.nx σ H)) : PSs X [s1, s2, s3, s4, s5] (tStores X.K) := by
  refine PSs.weaken (pss_cons h1 (pss_cons h2 (pss_cons h3 (pss_cons h4 (pss_one h5))))) ?_
  rintro D' σ H ⟨x, dx, v1, v2, v3, v4, v5, e0, e1, e2, e3, e4, e5, hx, q⟩
  refine ⟨x, dx, [], v1, e0, e1, hx, by decide, ?_⟩
  refine ⟨x, dx, _, v2, e0, e2, upd_same, Nat.lt_of_le_of_lt (putF_len _ _ _) (by decide), ?_⟩
  rw [upd_upd]
  refine ⟨x, dx, _, v3, e0, e3, upd_same, by have := putF_len "many" v1 []; have := putF_len "wide" v2 (putF "many" v1 []); have := putF_len "rows" v3 (putF "wide" v2 (putF "many" v1 [])); have := putF_len "low" v4 (putF "rows" v3 (putF "wide" v2 (putF "many" v1 []))); simp only [List.length_nil] at *; omega, ?_⟩
  rw [upd_upd]
  refine ⟨x, dx, _, v4, e0, e4, upd_same, by have := putF_len "many" v1 []; have := putF_len "wide" v2 (putF "many" v1 []); have := putF_len "rows" v3 (putF "wide" v2 (putF "many" v1 [])); have := putF_len "low" v4 (putF "rows" v3 (putF "wide" v2 (putF "many" v1 []))); simp only [List.length_nil] at *; omega, ?_⟩
  rw [upd_upd]
  refine ⟨x, dx, _, v5, e0, e5, upd_same, by have := putF_len "many" v1 []; have := putF_len "wide" v2 (putF "many" v1 []); have := putF_len "rows" v3 (putF "wide" v2 (putF "many" v1 [])); have := putF_len "low" v4 (putF "rows" v3 (putF "wide" v2 (putF "many" v1 []))); simp only [List.length_nil] at *; omega, ?_⟩
  rw [upd_upd]
  exact q
end
section
variable {P : Program} {w : World} {K : PySem.W.Frag} {mg : Str → Option Value} {base : Heap} {x qual : Str} {params : Arguments} {body : List Stmt} {scope : Scope} {kws : List (Str × V)} {f : Addr} {fd : FuncData}
/-- THE RULE for Rule.__init__ -/
theorem mk_ok {N ps : List Str} {k : Nat} {b : M Fl} (FD : FunD K x qual params body scope [] kws f fd) (S : FnScope N ps scope) (hm : mg "Rule" = some (.ref (He.ga K "Rule"))) (hb : Binds K fd ps []) (hmk : Mk K (He.ga K "Rule") f) (hn : ps.length = 6) (hN : N.length = 8)
    (hbody : ∀ (cdv : Value) (A : Around) (outer : List PySem.Env) (s : Shared) (H : Hp) (E : XK), Room k (A.deeper (envOfC qual scope s.heap.objs.size f cdv)) → Takes (cxOf (L2.CX P w) P w K mg base N qual scope f cdv A outer s H E) (fun cls d _ H' => E cls d H') →
      PSs (cxOf (L2.CX P w) P w K mg base N qual scope f cdv A outer s H E) body (fun D' σ H1 => tS w K (fun cls d _ H' => E cls d H') b { D' with nx := tStores K D' } σ H1)) : MkF P w K mg base (k + 1) (initM b) := by
  refine ⟨f, fd, ps, FD.ok S (fun vs H Q E h => ?_) (fun cdv A outer s H vs Q E hr h => ?_), hm, hb, hmk⟩
  · obtain ⟨ra, F, ds, row, x, dx, us, rfl, _, _, _, rp, hl, _⟩ := h
    rw [List.length_cons, rp.length, hl, hn]
  · have tk : Takes (cxOf (L2.CX P w) P w K mg base N qual scope f cdv A outer s H E) (fun cls d _ H' => E cls d H') := takes_of rfl rfl rfl rfl
    refine ⟨_, hbody cdv A outer s H E hr tk, ?_⟩
    obtain ⟨ra, F, ds, row, x, dx, us, rfl, hf, fra, ro, rp, hl, hx, fx, nra, h⟩ := h
    obtain ⟨d1, d2, d3, d4, d5, rfl⟩ : ∃ d1 d2 d3 d4 d5, ds = [d1, d2, d3, d4, d5] := by
      match ds, hl with
      | [d1, d2, d3, d4, d5], _ => exact ⟨d1, d2, d3, d4, d5, rfl⟩
    cases rp with
    | @cons v1 _ _ _ r1 rp =>
    cases rp with
    | @cons v2 _ _ _ r2 rp =>
    cases rp with
    | @cons v3 _ _ _ r3 rp =>
    cases rp with
    | @cons v4 _ _ _ r4 rp =>
    cases rp with
    | @cons v5 _ _ _ r5 rp =>
    cases rp
    have es : L2.start N [.ref x, v1, v2, v3, v4, v5] = [some (.ref x), some v1, some v2, some v3, some v4, some v5, none, none] := by
      unfold L2.start
      rw [hN]
      rfl
    have R : Rel w K ra ⟨fun b => if b = ra then none else H b, fun b => H b ≠ none ∧ F b = none ∧ b ≠ ra, .ref x⟩ F ⟨.pin :: [d1, d2, d3, d4, d5].map Slot.val ++ [.no, .no], row⟩ (L2.start N [.ref x, v1, v2, v3, v4, v5]) H := by
      rw [es]
      refine ⟨hf, fun b u q => ?_, rfl, fun i t hi => ?_, fun i j s1 s2 a a' p hij h1 h2 c1 c2 h3 h4 => ?_, ro, fra, if_pos rfl, fun b hb => ⟨?_, hb.2.1⟩⟩
      · by_cases c : b = ra
        · simp only [if_pos c] at q
          cases q
        · simp only [if_neg c] at q
          exact q
      · match i, hi with
        | 0, hi => cases hi; rfl
        | 1, hi => cases hi; exact ⟨v1, rfl, r1⟩
        | 2, hi => cases hi; exact ⟨v2, rfl, r2⟩
        | 3, hi => cases hi; exact ⟨v3, rfl, r3⟩
        | 4, hi => cases hi; exact ⟨v4, rfl, r4⟩
        | 5, hi => cases hi; exact ⟨v5, rfl, r5⟩
        | 6, hi => cases hi; trivial
        | 7, hi => cases hi; trivial
        | i + 8, hi => cases hi
      · exfalso
        match i, h1 with
        | 0, h1 => cases h1; cases c1
        | 1, h1 => cases h1; cases c1
        | 2, h1 => cases h1; cases c1
        | 3, h1 => cases h1; cases c1
        | 4, h1 => cases h1; cases c1
        | 5, h1 => cases h1; cases c1
        | 6, h1 => cases h1; cases c1
        | 7, h1 => cases h1; cases c1
        | i + 8, h1 => cases h1
      · show (if b = ra then none else H b) ≠ none
        rw [if_neg hb.2.2]
        exact hb.1
    refine ⟨ra, _, F, _, R, ?_⟩
    unfold initM at h
    cases eb : b ⟨.pin :: [d1, d2, d3, d4, d5].map Slot.val ++ [.no, .no], row⟩ with
    | err =>
      rw [eb] at h
      exact h
    | exc y e' =>
      rw [eb] at h
      exact fun cls d σ' F' H' s' R' hx => h F' H' cls d (aft_of R' s') hx
    | ok fl e' =>
      rw [eb] at h
      intro σ' F' H' s' R'
      cases fl with
      | bk => exact h.elim
      | ct => exact h.elim
      | rt d => exact h.elim
      | nx =>
        simp only at h
        cases ee : initEnd e'.sl with
        | none =>
          rw [ee] at h
          exact h.elim
        | some l =>
          rw [ee] at h
          obtain ⟨d1', d2', d3', d4', d5', r', esl, rfl⟩ := initEnd_inv ee
          have g0 : σ'[0]? = some (some (V.ref x)) := R'.sl 0 .pin (by rw [esl]; rfl)
          obtain ⟨u1, g1, q1⟩ := R'.sl 1 (.val d1') (by rw [esl]; rfl)
          obtain ⟨u2, g2, q2⟩ := R'.sl 2 (.val d2') (by rw [esl]; rfl)
          obtain ⟨u3, g3, q3⟩ := R'.sl 3 (.val d3') (by rw [esl]; rfl)
          obtain ⟨u4, g4, q4⟩ := R'.sl 4 (.val d4') (by rw [esl]; rfl)
          obtain ⟨u5, g5, q5⟩ := R'.sl 5 (.val d5') (by rw [esl]; rfl)
          have hx' : H' x = some (.ins (He.ga K "Rule") dx []) := R'.kh x _ (by show (if x = ra then none else H x) = _; rw [if_neg nra]; exact hx)
          exact ⟨x, dx, u1, u2, u3, u4, u5, g0, g1, g2, g3, g4, g5, hx', h F' H' _ [u1, u2, u3, u4, u5] (aft_of R' s') (.cons q1 (.cons q2 (.cons q3 (.cons q4 (.cons q5 .nil))))) rfl upd_same fun b hb => upd_ne hb⟩
end
end Mi

set_option Elab.async false
set_option linter.all false
set_option maxRecDepth 100000
set_option maxHeartbeats 4000000
/-! Mi, part R: any, all, sum, max, min, list(range); try. -/
namespace Mi
open PySem PySem.Spec PyProof.Rows L2
def blsOf : List D → Option (List Bool)
  | [] => some []
  | .bl b :: r => (blsOf r).map (b :: ·)
  | _ => none
theorem blsOf_ok : ∀ {l : List D} {bs : List Bool}, blsOf l = some bs → l = bs.map D.bl
  | [], bs, h => by
    cases h
    rfl
  | .bl b :: r, bs, h => by
    simp only [blsOf, Option.map_eq_some_iff] at h
    obtain ⟨bs', h1, rfl⟩ := h
    rw [blsOf_ok h1]
    rfl
  | .non :: r, bs, h => by cases h
  | .int _ :: r, bs, h => by cases h
  | .str _ :: r, bs, h => by cases h
  | .tup _ :: r, bs, h => by cases h
  | .lst _ :: r, bs, h => by cases h
  | .dct _ :: r, bs, h => by cases h
  | .obj _ :: r, bs, h => by cases h
  | .row :: r, bs, h => by cases h
theorem blsOf_map (bs : List Bool) : blsOf (bs.map D.bl) = some bs := by
  induction bs with
  | nil => rfl
  | cons b bs ih => simp [blsOf, ih]
def intsOf : List D → Option (List Int)
  | [] => some []
  | .int b :: r => (intsOf r).map (b :: ·)
  | _ => none
theorem RepA.bls {w : World} {K : PySem.W.Frag} {ra : Addr} {F : Hp} : ∀ {vs : List V} {bs : List Bool}, RepA w K ra F vs (bs.map D.bl) → vs = bs.map V.bl
  | vs, [], h => by
    cases h
    rfl
  | vs, i :: is, h => by
    cases h with
    | cons a r =>
      cases a
      rw [RepA.bls r]
      rfl
def allF (d : D) : Option D := match d with
  | .lst l => (blsOf l).map fun bs => .bl (bs.all id)
  | _ => none
def anyF (d : D) : Option D := match d with
  | .lst l => (blsOf l).map fun bs => .bl (bs.any id)
  | _ => none
section
variable {X : Cx} {W : WX} {a b : Expr} {ma mb : M Ref} {pos : Pos}
theorem Held.bools {w : World} {K : PySem.W.Frag} {ra : Addr} {F H : Hp} (fh : Same F H) {v : V} {bs : List Bool} (h : Held w K ra F H v (.lst (bs.map D.bl))) : ∃ p, v = .ref p ∧ SqL K H p (bs.map V.bl) := by
  obtain ⟨p, vs, rfl, h1, h2⟩ := h.lst fh
  rw [h2.bls] at h1
  exact ⟨p, rfl, .of h1⟩
theorem c1s_all : C1S X.w X.K (rAll X.K) allF := by
  intro ra HK F e σ H x d z Q R hx hz q
  cases d with
  | lst l =>
    simp only [allF, Option.map_eq_some_iff] at hz
    obtain ⟨bs, h1, rfl⟩ := hz
    obtain rfl := blsOf_ok h1
    obtain ⟨p, rfl, h2⟩ := hx.bools R.fh
    exact ⟨p, bs, rfl, h2, q _ F H (Same.refl F) R (.bl _)⟩
  | _ => cases hz
theorem pm_all {p : Pos} (hm : X.mg "all" = none) (ha : PMR X W a ma) (hc : X.calm = true := by rfl) (hg : Gl X "all" := by rfl) (hse : starEach [a] X.env = (false, eval a X.env) :: starEach [] X.env := by rfl) : PM X W (.Call (.Name "all" p) [a] [] pos) (op1M ma allF) :=
  pm_call1 (cr_all hc) c1s_all hm PyProof.Rows.boot_all ha hg (by decide) (by decide) hse
/-! ### max(i, j), min(i, j) -/
def max2F (l : List D) : Option D := match l with
  | [.int i, .int j] => some (.int (max i j))
  | _ => none
def min2F (l : List D) : Option D := match l with
  | [.int i, .int j] => some (.int (min i j))
  | _ => none
def opLM (r : M (List D)) (f : List D → Option D) : M D := bindM r fun l => liftO (f l)
/-! ### list(range(a, b)), tuple(range(a, b)) -/
def rg2 (x y : D) : Option (List D) := match x, y with
  | .int i, .int j => if okI i && okI j && decide (j - i ≤ 1000000) then some (rngL i j) else none
  | _, _ => none
def lstRgM (ma mb : M D) : M OD := bindM ma fun x => bindM mb fun y => liftO ((rg2 x y).map OD.lst)
end
/-! ### try -/
def exSub (c d : Str) : Bool := c == d || d == "CutError"
def hdM (i : Nat) (m : M Fl) : M Fl := fun e => if i < e.sl.length then (match m { e with sl := e.sl.set i .no } with
  | .ok fl e2 => .ok fl { e2 with sl := e2.sl.set i .no }
  | _ => .err) else .err
def tryH (cs : List Str) (x : Exn) (e : Env) : List (Str × Nat × M Fl) → Res Fl
  | [] => .exc x e
  | (c, i, m) :: r => if cs.contains x.cls && x.fs.isEmpty then (if exSub x.cls c then hdM i m e else tryH cs x e r) else .err
def tryM (cs : List Str) (b : M Fl) (hs : List (Str × Nat × M Fl)) : M Fl := fun e => match b e with
  | .exc x e' => tryH cs x e' hs
  | r => r
/-- the classes of errors -/
structure ExTab (K : PySem.W.Frag) (mg : Str → Option Value) (cs : List Str) : Prop where
  g : ∀ c ∈ cs, mg c = some (.ref (He.ga K c))
  m : ∀ c ∈ cs, ∀ d ∈ cs, PySem.W.exmOne K (.ref (He.ga K c)) (.ref (He.ga K d)) = some (exSub c d)
  i : ∀ c ∈ cs, ExcC K (He.ga K c)
  k : ∀ c ∈ cs, PySem.W.kitOne K (.ref (He.ga K c)) (.ref (He.ga K "CutError")) = some true
  cut : ("CutError" : Str) ∈ cs
section
variable {X : Cx} {W : WX} {cs : List Str}
/-- y = A if isinstance(e, CutError) else B, in an except suite -/
theorem suite_is {i j : Nat} {a : Addr} {oe : Obj} {c : Str} {pn : List (Addr × Obj)} {y n : Str} {py p p2 p3 p4 p5 pos : Pos} {A B : Expr} {mA : M D} (T : ExTab X.K X.mg cs) (hcs : c ∈ cs) (hz : Zc (.ref (He.ga X.K c)) none oe) (hf : ∃ vs, oe.data = .fields vs)
    (hA : PM (X.suite a ((a, oe) :: pn)) WN A mA) (hB : PM (X.suite a ((a, oe) :: pn)) WN B errM) (hm : X.mg "isinstance" = none) (hN : X.N.Nodup) (hi : X.N[i]? = some n) (hj : X.N[j]? = some y) (hvi : Vis X.env.scope n)
    (hdn : (n == ("__debug__" : Str)) = false) (hcn : (n == ("__classdict__" : Str)) = false)
    (hyl : Loc X.env.scope y) (hgi : Gl X "isinstance") (hgc : Gl X "CutError") (hse : starEach [.Name n p2, .Name "CutError" p3] X.env = (false, eval (.Name n p2) X.env) :: starEach [.Name "CutError" p3] X.env)
    (hsw : swapsWith (.IfExp (.Call (.Name "isinstance" p) [.Name n p2, .Name "CutError" p3] [] p4) A B p5) (some (.Name y py)) pos.line X.env = pure false) (hfn : X.fn y = true ∨ X.env.scope.names.lookup y = some .local) :
    PSs (X.suite a ((a, oe) :: pn)) [.Assign [.Name y py] (.IfExp (.Call (.Name "isinstance" p) [.Name n p2, .Name "CutError" p3] [] p4) A B p5) pos] (fun D' σ H => σ[i]? = some (some (.ref a)) ∧ tS X.w X.K WN (asgM j mA) D' σ H) := by
  have pc : PE (X.suite a ((a, oe) :: pn)) (.Call (.Name "isinstance" p) [.Name n p2, .Name "CutError" p3] [] p4) _ := pe_callB (call_isE (T.i c hcs) hz hf) hgi hm (by decide +kernel) (pa_cons (pe_var (i := i) hi hvi hdn hcn) (pa_cons (pe_glob (v := .ref (He.ga X.K "CutError")) hgc (T.g _ T.cut) rfl (by decide)) pa_nil rfl) hse) (by decide) (by decide) hse rfl
  have ps := pss_one (ps_set (X := X.suite a ((a, oe) :: pn)) (pos := pos) (pos' := py) hN hj hyl (pe_ifExp (X := X.suite a ((a, oe) :: pn)) (pos := p5) (pt_val pc) hA hB) hsw hfn)
  refine PSs.weaken ps ?_
  rintro D' σ H ⟨e1, ra, HK, F, e, R, h⟩
  refine ⟨.ref a, e1, ?_⟩
  refine ⟨.ref (He.ga X.K "CutError"), .ref (He.ga X.K "CutError"), true, rfl, fun u r => r, T.k c hcs, ?_⟩
  · refine ⟨true, rfl, iteT ?_⟩
    unfold asgM at h
    refine stepS R h fun F1 e1' d v H1 s1 R1 r1 q1 => ?_
    obtain ⟨h1, q2⟩ := wp_setM q1
    exact q2 _ F1 H1 (Same.refl F1) (R1.setVal h1 r1)
end
end Mi

set_option Elab.async false
set_option linter.all false
set_option maxRecDepth 100000
set_option maxHeartbeats 4000000
/-! Mi, part S: several names set at once, each a value or a container of one's own. -/
namespace Mi
open PySem PySem.Spec PyProof.Rows L2
section
variable {w : World} {K : PySem.W.Frag} {ra : Addr} {HK : Kp} {F F' H H' : Hp} {e : Env} {σ : St}
/-- a new container is pinned while more is read -/
theorem Rel.pinTO (R : Rel w K ra HK F e σ H) {a : Addr} {o : OD} (t : TO w K ra HK σ e F H (.ref a) o) : ∃ u, H a = some u ∧ Rel w K ra (pinD HK a u) F e σ H := by
  obtain ⟨a', ea, r, fa, ka, na, nd⟩ := t
  cases ea
  obtain ⟨u, hu⟩ : ∃ u, H a = some u := by
    cases o with
    | lst ds =>
      obtain ⟨vs, h1, _⟩ := r
      exact ⟨_, h1⟩
    | dct kvs =>
      obtain ⟨es, ⟨o, h1, _⟩, _⟩ := r
      exact ⟨_, h1⟩
  refine ⟨u, hu, R.fh, fun b z q => ?_, R.len, fun i s h => ?_, R.sep, R.row, R.fra, ?_, fun b hb => ?_⟩
  · have q' : upd HK.h a u b = some z := q
    by_cases hb : b = a
    · rw [hb, upd_same] at q'
      rw [hb, hu]
      exact q'
    · rw [upd_ne hb] at q'
      exact R.kh b z q'
  · cases s with
    | no => trivial
    | pin => exact R.sl i _ h
    | val d => exact R.sl i _ h
    | own o' =>
      obtain ⟨b, e1, r, fb, kb, nb⟩ := R.sl i _ h
      refine ⟨b, e1, r, fb, ?_, nb⟩
      show upd HK.h a u b = none
      rw [upd_ne fun z => nd i _ b h rfl e1 (.inl z.symm)]
      exact kb
    | box l =>
      obtain ⟨b, e1, es, at_, rb, nd', f⟩ := R.sl i _ h
      refine ⟨b, e1, es, at_, rb, nd', fun p hp => ?_⟩
      obtain ⟨f1, f2, f3, f4⟩ := f p hp
      refine ⟨f1, ?_, f3, f4⟩
      show upd HK.h a u p = none
      rw [upd_ne fun z => nd i _ b h rfl e1 (by rw [← z]; exact hp.imp id fun q => ⟨rfl, q⟩)]
      exact f2
  · show upd HK.h a u ra = none
    rw [upd_ne na.symm]
    exact R.kra
  · rcases hb with hb | rfl
    · refine ⟨?_, (R.pn b hb).2⟩
      show upd HK.h a u b ≠ none
      by_cases c : b = a
      · rw [c, upd_same]
        exact fun z => by cases z
      · rw [upd_ne c]
        exact (R.pn b hb).1
    · exact ⟨by show upd HK.h b u b ≠ none; rw [upd_same]; exact (fun z => by cases z), fa⟩
end
/-- values that are to be set, each a value or new -/
def TSl : List V → List Slot → World → PySem.W.Frag → Addr → Kp → St → Env → Hp → Hp → Prop
  | [], [] => fun w K ra HK σ e F H => Rel w K ra HK F e σ H
  | v :: vs, .val d :: ss => fun w K ra HK σ e F H => Rep w K ra F v d ∧ TSl vs ss w K ra HK σ e F H
  | v :: vs, .own o :: ss => fun w K ra HK σ e F H => ∃ a u, v = .ref a ∧ HK.h a = none ∧ (∀ b, HK.pin b → HK.h b ≠ none) ∧ RepO w K ra F H a o ∧ TSl vs ss w K ra (pinD HK a u) σ e F H
  | v :: vs, .box l :: ss => fun w K ra HK σ e F H => vs = [] ∧ ss = [] ∧ Rel w K ra HK F e σ H ∧ ∃ a, v = .ref a ∧ BoxAt w K ra HK F H a l ∧ ∀ p, Foot H (.box l) a p → NotIn e σ H p
  | _, _ => fun _ _ _ _ _ _ _ _ => False
def consV (m : M D) (r : M (List Slot)) : M (List Slot) := bindM m fun d => bindM r fun ss => pureM (.val d :: ss)
def consO (m : M OD) (r : M (List Slot)) : M (List Slot) := bindM m fun o => bindM r fun ss => pureM (.own o :: ss)
def setAll : List Nat → List Slot → M Unit
  | [], [] => pureM ()
  | i :: is, s :: ss => bindM (setAll is ss) fun _ => setM i s
  | _, _ => errM
def setS : List Nat → List V → L2.St → L2.St
  | i :: is, v :: vs, σ => (setS is vs σ).set i (some v)
  | _, _, σ => σ
/-- reading of a list of slots: the state that holds is told by TSl itself -/
def okL (w : World) (K : PySem.W.Frag) (ra : Addr) (HK : Kp) (F : Hp) (σ : L2.St) (Q : List V → Hp → Prop) : List Slot → Env → Prop := fun ss e' => ∀ vs F' H', Same F F' → TSl vs ss w K ra HK σ e' F' H' → Q vs H'
def tL (w : World) (K : PySem.W.Frag) (W : WX) (m : M (List Slot)) : TA := fun σ H Q => ∃ ra HK F e, Rel w K ra HK F e σ H ∧ (m e).wp (okL w K ra HK F σ Q) (exW w K ra HK F W)
def PML (X : Cx) (W : WX) (es : List Expr) (m : M (List Slot)) : Prop := PA X es (tL X.w X.K W m)
theorem TSl.kept {w : World} {K : PySem.W.Frag} {ra : Addr} {F H : Hp} {e : Env} {σ : L2.St} : ∀ {vs : List V} {ss : List Slot} {HK : Kp}, TSl vs ss w K ra HK σ e F H → ∀ b u, HK.h b = some u → H b = some u
  | [], [], HK, h, b, u, q => Rel.kh h b u q
  | v :: vs, .val d :: ss, HK, h, b, u, q => TSl.kept (vs := vs) (ss := ss) h.2 b u q
  | v :: vs, .own o :: ss, HK, h, b, u, q => by
    obtain ⟨a, u', _, ka, _, _, t⟩ := h
    refine TSl.kept (vs := vs) (ss := ss) t b u ?_
    show upd HK.h a u' b = some u
    rw [upd_ne (ne_of_none q ka)]
    exact q
  | [], _ :: _, _, h, _, _, _ => h.elim
  | _ :: _, [], _, h, _, _, _ => h.elim
  | _ :: _, .no :: _, _, h, _, _, _ => h.elim
  | _ :: _, .pin :: _, _, h, _, _, _ => h.elim
  | v :: vs, .box l :: ss, HK, h, b, u, q => Rel.kh h.2.2.1 b u q
theorem setM_ok {i : Nat} {s : Slot} {e : Env} {e' : Env} (h : setM i s e = .ok () e') : i < e.sl.length ∧ e' = { e with sl := e.sl.set i s } := by
  unfold setM at h
  by_cases c : i < e.sl.length
  · rw [if_pos c] at h
    cases h
    exact ⟨c, rfl⟩
  · rw [if_neg c] at h
    cases h
theorem setAll_cons {i : Nat} {is : List Nat} {s : Slot} {ss : List Slot} {e e' : Env} (h : setAll (i :: is) (s :: ss) e = .ok () e') : ∃ e1, setAll is ss e = .ok () e1 ∧ i < e1.sl.length ∧ e' = { e1 with sl := e1.sl.set i s } := by
  unfold setAll bindM at h
  cases q : setAll is ss e with
  | err =>
    rw [q] at h
    cases h
  | exc x e1 =>
    rw [q] at h
    cases h
  | ok u e1 =>
    rw [q] at h
    obtain ⟨h1, h2⟩ := setM_ok h
    exact ⟨e1, rfl, h1, h2⟩
theorem TSl.set {w : World} {K : PySem.W.Frag} {ra : Addr} {F H : Hp} {e : Env} {σ : L2.St} : ∀ {is : List Nat} {vs : List V} {ss : List Slot} {HK : Kp} {e' : Env}, TSl vs ss w K ra HK σ e F H → setAll is ss e = .ok () e' → Rel w K ra HK F e' (setS is vs σ) H
  | [], [], [], HK, e', h, q => by
    cases q
    exact h
  | i :: is, v :: vs, .val d :: ss, HK, e', h, q => by
    obtain ⟨e1, q1, hl, rfl⟩ := setAll_cons q
    exact (TSl.set (is := is) h.2 q1).setVal hl h.1
  | i :: is, v :: vs, .own o :: ss, HK, e', h, q => by
    obtain ⟨e1, q1, hl, rfl⟩ := setAll_cons q
    obtain ⟨a, u, rfl, ka, hpn, rp, t⟩ := h
    have R := TSl.set (is := is) t q1
    obtain ⟨R2, fa, na, hu, nd⟩ := R.unpin ka hpn
    exact R2.setOwn hl ⟨a, rfl, rp, fa, ka, na, nd⟩
  | _ :: _, [], [], _, _, _, q => by cases q
  | [], _ :: _, [], _, _, h, _ => h.elim
  | [], [], _ :: _, _, _, _, q => by cases q
  | [], _ :: _, _ :: _, _, _, _, q => by cases q
  | _ :: _, [], _ :: _, _, _, h, _ => h.elim
  | _ :: _, _ :: _, [], _, _, h, _ => h.elim
  | _ :: _, _ :: _, .no :: _, _, _, h, _ => h.elim
  | _ :: _, _ :: _, .pin :: _, _, _, h, _ => h.elim
  | i :: is, v :: vs, .box l :: ss, HK, e', h, q => by
    obtain ⟨e1, q1, hl, rfl⟩ := setAll_cons q
    obtain ⟨rfl, rfl, R, a, rfl, bx, nin⟩ := h
    cases is with
    | nil =>
      cases q1
      exact R.setC hl ⟨a, rfl, bx⟩ nin
    | cons j is => cases q1
theorem setAll_quiet : ∀ (is : List Nat) (ss : List Slot) (e : Env) (x : Exn) (e' : Env), setAll is ss e ≠ .exc x e'
  | [], [], e, x, e', h => by cases h
  | i :: is, s :: ss, e, x, e', h => by
    unfold setAll bindM at h
    cases q : setAll is ss e with
    | err =>
      rw [q] at h
      cases h
    | exc y e1 => exact setAll_quiet is ss e y e1 q
    | ok u e1 =>
      rw [q] at h
      unfold setM at h
      simp only at h
      split at h <;> cases h
  | [], _ :: _, e, x, e', h => by cases h
  | _ :: _, [], e, x, e', h => by cases h
section
variable {X : Cx} {W : WX} {a : Expr} {es : List Expr} {m : M D} {mo : M OD} {r : M (List Slot)}
theorem pml_nil : PML X W [] (pureM []) := PA.weaken pa_nil fun σ H Q h => by
  obtain ⟨ra, HK, F, e, R, h⟩ := h
  exact h [] F H (Same.refl F) R
theorem okL_mono {w : World} {K : PySem.W.Frag} {ra : Addr} {HK : Kp} {F F1 : Hp} {σ : L2.St} {Q : List V → Hp → Prop} (s : Same F F1) {ss : List Slot} {e' : Env} (h : okL w K ra HK F σ Q ss e') : okL w K ra HK F1 σ Q ss e' := fun vs F' H' s' => h vs F' H' (s.trans s')
theorem pml_val (ha : PM X W a m) (hr : PML X W es r) (hs : starEach (a :: es) X.env = (false, eval a X.env) :: starEach es X.env := by rfl) : PML X W (a :: es) (consV m r) := by
  refine PA.weaken (pa_cons ha hr hs) ?_
  rintro σ H Q ⟨ra, HK, F, e, R, h⟩
  unfold consV at h
  refine step (A := fun F => okL X.w X.K ra HK F σ Q) R h (fun F' c e' s q => okL_mono s q) fun F1 e1 d v H1 s1 R1 r1 q1 => ?_
  refine ⟨ra, HK, F1, e1, R1, wp_mono (wp_bind.mp q1) (fun ss e2 z vs F2 H2 s2 t => ?_) fun _ _ z => z⟩
  exact z (v :: vs) F2 H2 s2 ⟨Rep.mono s2 r1, t⟩
theorem pml_own (ha : PMO X W a mo) (hr : PML X W es r) (hs : starEach (a :: es) X.env = (false, eval a X.env) :: starEach es X.env := by rfl) : PML X W (a :: es) (consO mo r) := by
  refine PA.weaken (pa_cons ha hr hs) ?_
  rintro σ H Q ⟨ra, HK, F, e, R, h⟩
  unfold consO at h
  refine step (A := fun F => okL X.w X.K ra HK F σ Q) R h (fun F' c e' s q => okL_mono s q) fun F1 e1 o v H1 s1 R1 r1 q1 => ?_
  obtain ⟨b, rfl, rp, fb, kb, nb, nd⟩ := id r1
  obtain ⟨u, hu, R2⟩ := R1.pinTO r1
  have hpn : ∀ a, HK.pin a → HK.h a ≠ none := fun a ha => (R1.pn a ha).1
  refine ⟨ra, _, F1, e1, R2, wp_mono (wp_bind.mp q1) (fun ss e2 z vs F2 H2 s2 t => ?_) fun x e2 z cls d σ' F' H' s' R' hx => ?_⟩
  · have hu2 : H2 b = some u := TSl.kept t b u (by show upd HK.h b u b = some u; exact upd_same)
    refine z (.ref b :: vs) F2 H2 s2 ⟨b, u, rfl, kb, hpn, ?_, t⟩
    cases o with
    | lst ds =>
      obtain ⟨us, h1, h2⟩ := rp
      rw [hu] at h1
      exact ⟨us, hu2.trans h1, h2.mono s2⟩
    | dct kvs =>
      obtain ⟨es, ⟨ob, h1, h3⟩, h2⟩ := rp
      rw [hu] at h1
      exact ⟨es, ⟨ob, hu2.trans h1, h3⟩, h2.mono s2⟩
  · exact z cls d σ' F' H' s' (R'.unpin kb hpn).1 hx
def parM (is : List Nat) (r : M (List Slot)) : M Fl := bindM r fun ss => bindM (setAll is ss) fun _ => pureM .nx
theorem par_step {is : List Nat} {D' : Ends} {σ : L2.St} {H : Hp} (h : tS X.w X.K W (parM is r) D' σ H) {Q : List V → Hp → Prop} (k : ∀ vs H1, vs.length = is.length → D'.nx (setS is vs σ) H1 → Q vs H1) : tL X.w X.K W r σ H Q := by
  obtain ⟨ra, HK, F, e, R, h⟩ := h
  unfold parM at h
  refine ⟨ra, HK, F, e, R, wp_mono (wp_bind.mp h) (fun ss e1 z vs F1 H1 s1 t => ?_) fun _ _ z => z⟩
  have z1 := wp_bind.mp z
  cases q : setAll is ss e1 with
  | err =>
    rw [q] at z1
    exact z1.elim
  | exc x e2 => exact absurd q (setAll_quiet _ _ _ _ _)
  | ok u e2 =>
    rw [q] at z1
    have R2 := TSl.set t q
    refine k vs H1 ?_ (z1 _ F1 H1 s1 R2)
    clear z1 z R2
    have : ∀ (is : List Nat) (vs : List V) (ss : List Slot) (HK : Kp) (e1 e2 : Env), TSl vs ss X.w X.K ra HK σ e1 F1 H1 → setAll is ss e1 = .ok () e2 → vs.length = is.length := by
      intro is
      induction is with
      | nil =>
        intro vs ss HK e1 e2 t q
        match vs, ss, t, q with
        | [], [], _, _ => rfl
        | _, _ :: _, _, q => cases q
        | _ :: _, [], t, _ => exact t.elim
      | cons i is ih =>
        intro vs ss HK e1 e2 t q
        match vs, ss, t, q with
        | [], [], _, q => cases q
        | [], _ :: _, t, _ => exact t.elim
        | _ :: _, [], t, _ => exact t.elim
        | v :: vs, .val d :: ss, t, q =>
          obtain ⟨e3, q1, _⟩ := setAll_cons q
          rw [List.length_cons, List.length_cons, ih vs ss HK e1 e3 t.2 q1]
        | v :: vs, .own o :: ss, t, q =>
          obtain ⟨e3, q1, _⟩ := setAll_cons q
          obtain ⟨a, u, _, _, _, _, t⟩ := t
          rw [List.length_cons, List.length_cons, ih vs ss _ e1 e3 t q1]
        | _ :: _, .no :: _, t, _ => exact t.elim
        | _ :: _, .pin :: _, t, _ => exact t.elim
        | v :: vs, .box l :: ss, t, q =>
          obtain ⟨e3, q1, _⟩ := setAll_cons q
          obtain ⟨rfl, rfl, _⟩ := t
          cases is with
          | nil => rfl
          | cons j is => cases q1
    exact this is vs ss HK e1 e2 t q
theorem psm_par2 (i j : Nat) {x y : Str} {a b : Expr} {px py pt pos : Pos} {kt k2 pt2} (ha : PML X W [a, b] r) (hN : X.N.Nodup) (hc : X.calm = true := by rfl) (hi : X.N[i]? = some x := by rfl) (hj : X.N[j]? = some y := by rfl) (hij : i ≠ j := by decide)
    (hx : X.env.scope.names.lookup x = some .local := by rfl) (hy : X.env.scope.names.lookup y = some .local := by rfl) (hw : swappedStores [.Tuple [.Name x px, .Name y py] kt pt] (.Tuple [a, b] k2 pt2) X.env = pure (some [x, y]) := by rfl)
    (hs : swapsWithSole [.Tuple [.Name x px, .Name y py] kt pt] (.Tuple [a, b] k2 pt2) pos.line X.env = pure false := by rfl) : PSM X W (.Assign [.Tuple [.Name x px, .Name y py] kt pt] (.Tuple [a, b] k2 pt2) pos) (parM [i, j] r) := by
  refine PS.weaken (ps_par hc hN hi hj hij hx hy ha hw hs) fun D' σ H h => par_step h fun vs H1 hl z => ?_
  match vs, hl, z with
  | [v, w], _, z =>
    refine ⟨v, w, rfl, ?_⟩
    have e : setS [i, j] [v, w] σ = (σ.set i (some v)).set j (some w) := by
      show (σ.set j (some w)).set i (some v) = _
      exact List.set_comm _ _ (Ne.symm hij)
    rw [← e]
    exact z
theorem psm_par3 (i j l : Nat) {x y z : Str} {a b c : Expr} {px py pz pt pos : Pos} {kt k2 pt2} (ha : PML X W [a, b, c] r) (hN : X.N.Nodup) (hc : X.calm = true := by rfl) (hi : X.N[i]? = some x := by rfl) (hj : X.N[j]? = some y := by rfl) (hl : X.N[l]? = some z := by rfl) (hij : i ≠ j := by decide) (hil : i ≠ l := by decide) (hjl : j ≠ l := by decide)
    (hx : X.env.scope.names.lookup x = some .local := by rfl) (hy : X.env.scope.names.lookup y = some .local := by rfl) (hz : X.env.scope.names.lookup z = some .local := by rfl) (hw : swappedStores [.Tuple [.Name x px, .Name y py, .Name z pz] kt pt] (.Tuple [a, b, c] k2 pt2) X.env = pure (some [x, y, z]) := by rfl)
    (hs : swapsWithSole [.Tuple [.Name x px, .Name y py, .Name z pz] kt pt] (.Tuple [a, b, c] k2 pt2) pos.line X.env = pure false := by rfl) : PSM X W (.Assign [.Tuple [.Name x px, .Name y py, .Name z pz] kt pt] (.Tuple [a, b, c] k2 pt2) pos) (parM [i, j, l] r) := by
  refine PS.weaken (ps_par3 hc hN hi hj hl hij hil hjl hx hy hz ha hw hs) fun D' σ H h => par_step h fun vs H1 hlen zz => ?_
  match vs, hlen, zz with
  | [u, v, w], _, zz =>
    refine ⟨u, v, w, rfl, ?_⟩
    have e : setS [i, j, l] [u, v, w] σ = ((σ.set i (some u)).set j (some v)).set l (some w) := by
      show ((σ.set l (some w)).set j (some v)).set i (some u) = _
      rw [List.set_comm _ _ (Ne.symm hjl), List.set_comm _ _ (Ne.symm hil), List.set_comm _ _ (Ne.symm hij)]
    rw [← e]
    exact zz
end
end Mi

set_option Elab.async false
set_option linter.all false
set_option maxRecDepth 100000
set_option maxHeartbeats 4000000
/-! Mi, part T: the law's row of draws. -/
namespace Mi
open PySem PySem.Spec PyProof.Rows L2
def RowS.get (r : RowS) (k : Nat) : D := match k with
  | 0 => .lst (r.xs.map D.int)
  | 1 => .int r.at_
  | 2 => .int r.big
  | _ => .int r.seed
def RowS.put (r : RowS) (k : Nat) (i : Int) : RowS := match k with
  | 1 => { r with at_ := i }
  | 2 => { r with big := i }
  | _ => { r with seed := i }
/-- row[k] -/
def rowM (i k : Nat) : M D := fun e => match e.sl[i]? with
  | some (.val .row) => .ok (e.row.get k) e
  | _ => .err
/-- row[k] = n -/
def rowSet (i k : Nat) (m : M D) : M Fl := bindM m fun d => match d with
  | .int n => fun e => (match e.sl[i]? with
    | some (.val .row) => .ok .nx { e with row := e.row.put k n }
    | _ => .err)
  | _ => errM
theorem Rel.rowPut {w : World} {K : PySem.W.Frag} {ra : Addr} {HK : Kp} {F H : Hp} {e : Env} {σ : L2.St} (R : Rel w K ra HK F e σ H) {r' : RowS} {L : Addr} (hL : F L = some (.lst (r'.xs.map V.int))) : Rel w K ra HK F { e with row := r' } σ (upd H ra (.lst [.ref L, .int r'.at_, .int r'.big, .int r'.seed])) := by
  refine ⟨fun b u q => ?_, fun b u q => ?_, R.len, fun i s h => ?_, R.sep.heap fun i s a h c hs => upd_ne (R.foot h c hs (.inl rfl)).2.2.1, ⟨L, upd_same, hL⟩, R.fra, R.kra, R.pn⟩
  · rw [upd_ne (ne_of_none q R.fra)]
    exact R.fh b u q
  · rw [upd_ne (ne_of_none q R.kra)]
    exact R.kh b u q
  · exact (R.sl i s h).mono (Same.refl F) fun q hc eq p hf => ⟨upd_ne (R.foot h hc eq hf).2.2.1, rfl⟩
theorem rep_ints {w : World} {K : PySem.W.Frag} {ra : Addr} {F : Hp} {L : Addr} {xs : List Int} (h : F L = some (.lst (xs.map V.int))) : Rep w K ra F (.ref L) (.lst (xs.map D.int)) := .lst h (RepA.ofInts xs)
section
variable {X : Cx} {W : WX} {x : Str} {p p2 pos pos2 : Pos} {jj : Nat}
theorem pm_row (i k : Nat) (hk : k < 4 := by decide) (hN : X.N[i]? = some x := by rfl) (hv : Vis X.env.scope x := by first | exact Or.inl rfl | exact Or.inr (Or.inl rfl) | exact Or.inr (Or.inr rfl)) (hd : (x == ("__debug__" : Str)) = false := by decide)
    (hcd : (x == ("__classdict__" : Str)) = false := by decide) : PM X W (.Subscript (.Name x p) (.Constant (.int (k : Nat)) jj p2) pos) (rowM i k) := by
  refine PE.weaken (pe_ix ix_list (pe_var hN hv hd hcd) pe_int (fun _ _ => rfl)) ?_
  rintro σ H Q ⟨ra, HK, F, e, R, h⟩
  unfold rowM at h
  cases q : e.sl[i]? with
  | none =>
    rw [q] at h
    exact h.elim
  | some s =>
    rw [q] at h
    cases s with
    | val d =>
      cases d with
      | row =>
        obtain ⟨v, e1, r⟩ := R.sl i _ q
        cases r
        obtain ⟨L, h1, h2⟩ := R.row
        refine ⟨.ref ra, e1, ra, [.ref L, .int e.row.at_, .int e.row.big, .int e.row.seed], (k : Nat), ?_⟩
        match k, hk with
        | 0, _ => exact ⟨.ref L, rfl, rfl, .of h1, rfl, h _ F H (Same.refl F) R (rep_ints h2)⟩
        | 1, _ => exact ⟨.int e.row.at_, rfl, rfl, .of h1, rfl, h _ F H (Same.refl F) R (.int _)⟩
        | 2, _ => exact ⟨.int e.row.big, rfl, rfl, .of h1, rfl, h _ F H (Same.refl F) R (.int _)⟩
        | 3, _ => exact ⟨.int e.row.seed, rfl, rfl, .of h1, rfl, h _ F H (Same.refl F) R (.int _)⟩
      | _ => exact h.elim
    | _ => exact h.elim
theorem psm_row (i k : Nat) {e : Expr} {m : M D} (he : PM X W e m) (hk : 0 < k ∧ k < 4 := by decide) (hN : X.N[i]? = some x := by rfl) (hv : Vis X.env.scope x := by first | exact Or.inl rfl | exact Or.inr (Or.inl rfl) | exact Or.inr (Or.inr rfl)) (hd : (x == ("__debug__" : Str)) = false := by decide)
    (hcd : (x == ("__classdict__" : Str)) = false := by decide) (hs : swapsWithSole [.Subscript (.Name x p) (.Constant (.int (k : Nat)) jj p2) pos] e pos2.line X.env = pure false := by rfl) (hw : swappedStores [.Subscript (.Name x p) (.Constant (.int (k : Nat)) jj p2) pos] e X.env = pure none := by rfl)
    (h1 : (assignEach [.Subscript (.Name x p) (.Constant (.int (k : Nat)) jj p2) pos] X.env).map (·.2) = [assign (.Subscript (.Name x p) (.Constant (.int (k : Nat)) jj p2) pos) X.env] := by rfl) : PSM X W (.Assign [.Subscript (.Name x p) (.Constant (.int (k : Nat)) jj p2) pos] e pos2) (rowSet i k m) := by
  refine PS.weaken (ps_asg he (pg_sub (pe_var hN hv hd hcd) pe_int set_list) hs hw h1) ?_
  rintro D' σ H ⟨ra, HK, F, e, R, h⟩
  unfold rowSet at h
  refine stepS R h fun F1 e1 d v H1 s1 R1 r1 q1 => ?_
  cases d with
  | int n =>
    cases r1
    simp only at q1
    cases q : e1.sl[i]? with
    | none =>
      rw [q] at q1
      exact q1.elim
    | some s =>
      rw [q] at q1
      cases s with
      | val d =>
        cases d with
        | row =>
          obtain ⟨v, e2, r⟩ := R1.sl i _ q
          cases r
          obtain ⟨L, h5, h2⟩ := R1.row
          have q2 : okS X.w X.K ra HK F1 D' .nx { e1 with row := e1.row.put k n } := q1
          match k, hk with
          | 1, _ => exact ⟨.ref ra, e2, ra, [.ref L, .int e1.row.at_, .int e1.row.big, .int e1.row.seed], 1, 1, rfl, rfl, h5, rfl, q2 σ F1 _ (Same.refl F1) (R1.rowPut (r' := e1.row.put 1 n) h2)⟩
          | 2, _ => exact ⟨.ref ra, e2, ra, [.ref L, .int e1.row.at_, .int e1.row.big, .int e1.row.seed], 2, 2, rfl, rfl, h5, rfl, q2 σ F1 _ (Same.refl F1) (R1.rowPut (r' := e1.row.put 2 n) h2)⟩
          | 3, _ => exact ⟨.ref ra, e2, ra, [.ref L, .int e1.row.at_, .int e1.row.big, .int e1.row.seed], 3, 3, rfl, rfl, h5, rfl, q2 σ F1 _ (Same.refl F1) (R1.rowPut (r' := e1.row.put 3 n) h2)⟩
        | _ => exact q1.elim
      | _ => exact q1.elim
  | _ => exact q1.elim
end
end Mi

set_option Elab.async false
set_option linter.all false
set_option maxRecDepth 100000
set_option maxHeartbeats 4000000
/-! Mi, part U: what is asked of the snapshot; the law's own def. -/
namespace Mi
open PySem PySem.Spec PyProof.Rows L2
/-! ### constants that are tuples -/
mutual
def repB (K : PySem.W.Frag) : Nat → Value → D → Bool
  | 0, _, _ => false
  | n + 1, u, d => match u, d with
    | .none, .non => true
    | .int i _, .int j => decide (i = j)
    | .ref a, .tup ds => (match K.lookup a with
      | some ⟨.type "tuple", _, .seq its _, _⟩ => decide (its.size ≤ 1000) && repsB K n its.toList ds
      | _ => false)
    | _, _ => false
def repsB (K : PySem.W.Frag) : Nat → List Value → List D → Bool
  | 0, _, _ => false
  | n + 1, us, ds => match us, ds with
    | [], [] => true
    | u :: us, d :: ds => repB K n u d && repsB K n us ds
    | _, _ => false
end
mutual
theorem repB_ok {K : PySem.W.Frag} : ∀ {n : Nat} {u : Value} {d : D}, repB K n u d = true → ∃ v, RelV v u ∧ ∀ w ra F, Rep w K ra F v d
  | 0, u, d, h => by
    unfold repB at h
    cases h
  | n + 1, u, d, h => by
    unfold repB at h
    split at h
    · exact ⟨.non, rfl, fun _ _ _ => .non⟩
    · rename_i i t j
      have e := of_decide_eq_true h
      subst e
      exact ⟨.int i, ⟨t, rfl⟩, fun _ _ _ => .int i⟩
    · rename_i a ds
      split at h
      · rename_i dd its nn sl hl
        simp only [Bool.and_eq_true, decide_eq_true_eq] at h
        obtain ⟨h1, h2⟩ := h
        obtain ⟨vs, r, k⟩ := repsB_ok h2
        refine ⟨.ref a, rfl, fun w ra F => .tup (.inr ⟨_, its, nn, hl, rfl, rfl, Nat.le_trans h1 (by decide), r⟩) (k w ra F)⟩
      · cases h
    · cases h
theorem repsB_ok {K : PySem.W.Frag} : ∀ {n : Nat} {us : List Value} {ds : List D}, repsB K n us ds = true → ∃ vs, Vals vs us ∧ ∀ w ra F, RepA w K ra F vs ds
  | 0, us, ds, h => by
    unfold repsB at h
    cases h
  | n + 1, us, ds, h => by
    unfold repsB at h
    split at h
    · exact ⟨[], .nil, fun _ _ _ => .nil⟩
    · rename_i u us d ds
      simp only [Bool.and_eq_true] at h
      obtain ⟨v, r1, k1⟩ := repB_ok h.1
      obtain ⟨vs, r2, k2⟩ := repsB_ok h.2
      exact ⟨v :: vs, .cons r1 r2, fun w ra F => .cons (k1 w ra F) (k2 w ra F)⟩
    · cases h
end
/-! ### the facts beyond the head's own -/
def cB (K : PySem.W.Frag) (c : Str) : Bool := decide (PySem.W.findIn K (.ref (He.ga K c)) "__getattribute__" = some (some (.builtin "BaseException.__getattribute__"))) && (decide (PySem.W.findIn K (.ref (He.ga K c)) "__getattr__" = some none) && (decide (PySem.W.subIn K (.ref (He.ga K c)) (.type "BaseException") = some true) &&
  (PySem.W.hasDictIn K (He.ga K c) && (decide (PySem.W.findIn K (.ref (He.ga K c)) "__class__" = some (some (.builtin "object.__class__"))) && (decide (PySem.W.mroIn K (He.ga K c) (.type "object") = some true) && decide (PySem.W.kitOne K (.ref (He.ga K c)) (.ref (He.ga K "CutError")) = some true))))))
def oB (K : PySem.W.Frag) : Bool := decide (PySem.W.specialIn K (.builtin "object.__class__") "__get__" = some (some (.builtin "getset_descriptor.__get__"))) && decide (PySem.W.takesIn K (.builtin "object.__class__") = some true)
def rB (K : PySem.W.Frag) (tys : List String) : Bool := decide (PySem.W.findIn K (.ref (He.ga K "Rule")) "__class__" = some (some (.builtin "object.__class__"))) && (decide (PySem.W.mroIn K (He.ga K "Rule") (.type "object") = some true) &&
  (tys.all (fun t => decide (PySem.W.kitOne K (.ref (He.ga K "Rule")) (.type t) = some false)) && (decide (PySem.W.kitOne K (.ref (He.ga K "Rule")) (.ref (He.ga K "Rule")) = some true) &&
    (["NoneType", "bool", "int", "str", "list", "tuple", "dict"] : List String).all fun t => decide (PySem.W.kitOne K (.type t) (.ref (He.ga K "Rule")) = some false))))
def exB (errs : List Str) (tys : List String) (ks : List (Str × D)) (K : PySem.W.Frag) : Bool :=
  (errs.all (cB K) && errs.all fun c => errs.all fun d => decide (PySem.W.exmOne K (.ref (He.ga K c)) (.ref (He.ga K d)) = some (exSub c d))) && (oB K && (rB K tys && ks.all fun p => repB K 5 (.ref (He.ga K p.1)) p.2))
structure Ex (errs : List Str) (tys : List String) (ks : List (Str × D)) (K : PySem.W.Frag) : Prop where
  i : ∀ c ∈ errs, ExcC K (He.ga K c)
  m : ∀ c ∈ errs, ∀ d ∈ errs, PySem.W.exmOne K (.ref (He.ga K c)) (.ref (He.ga K d)) = some (exSub c d)
  k : ∀ c ∈ errs, PySem.W.kitOne K (.ref (He.ga K c)) (.ref (He.ga K "CutError")) = some true
  ri : Cls K (He.ga K "Rule") → RuleIs K
  ki : ∀ t ∈ tys, PySem.W.kitOne K (.ref (He.ga K "Rule")) (.type t) = some false
  kRR : PySem.W.kitOne K (.ref (He.ga K "Rule")) (.ref (He.ga K "Rule")) = some true
  kTR : ∀ t ∈ (["NoneType", "bool", "int", "str", "list", "tuple", "dict"] : List String), PySem.W.kitOne K (.type t) (.ref (He.ga K "Rule")) = some false
  rp : ∀ p ∈ ks, ∀ w ra F, Rep w K ra F (.ref (He.ga K p.1)) p.2
theorem ex_of {errs : List Str} {tys : List String} {ks : List (Str × D)} {K : PySem.W.Frag} (h : exB errs tys ks K = true) : Ex errs tys ks K := by
  unfold exB oB rB at h
  simp only [Bool.and_eq_true, decide_eq_true_eq, List.all_eq_true] at h
  obtain ⟨⟨h1, h2⟩, ⟨h3, h4⟩, ⟨h5, h6, h7, h8, h9⟩, h10⟩ := h
  have cc : ∀ c ∈ errs, _ := fun c hc => by
    have := h1 c hc
    unfold cB at this
    simp only [Bool.and_eq_true, decide_eq_true_eq] at this
    exact this
  refine ⟨fun c hc => ?_, h2, fun c hc => (cc c hc).2.2.2.2.2.2, fun cl => ⟨cl, h5, h3, h4, h6⟩, h7, h8, h9, fun p hp w ra F => ?_⟩
  · obtain ⟨a1, a2, a3, a4, a5, a6, a7⟩ := cc c hc
    exact ⟨a1, a2, a3, a4, a5, h3, h4, a6⟩
  · obtain ⟨v, r, k⟩ := repB_ok (h10 p hp)
    have : v = .ref (He.ga K p.1) := by
      cases v with
      | ref a => cases (show Value.ref (He.ga K p.1) = Value.ref a from r); rfl
      | non => cases r
      | bl b => cases r
      | int i => obtain ⟨t, r⟩ := r; cases r
      | str z => obtain ⟨t, r⟩ := r; cases r
      | _ => first
        | (obtain ⟨t, r⟩ := r; cases r; done)
        | (cases r; done)
    rw [← this]
    exact k w ra F
/-! ### the Hook -/
abbrev AlM : Type := He.AlD × Bool
def obsM (fa : List He.Fa) (fn : List He.DefD) (ex : PySem.W.Frag → Bool) (K : PySem.W.Frag) : AlM := (He.obsD fa fn K, ex K)
def obsMG (n : Nat) (fa : List He.Fa) (fn : List He.DefD) (ex : PySem.W.Frag → Bool) (g : Addr → Option Obj) : AlM := obsM fa fn ex (He.frG g (He.asD g n))
def hookM (n : Nat) (fa : List He.Fa) (fn : List He.DefD) (ex : PySem.W.Frag → Bool) : PySem.W.Hook where
  α := AlM
  obs := fun s => obsMG n fa fn ex s.heap.get?
  val := fun _ => (He.valD fn, true)
  says := fun _ h => ∃ K : PySem.W.Frag, K.In h ∧ He.SaysD fa fn K ∧ ex K = true
  of := fun _ _ e => ⟨_, He.frG_in, congrArg Prod.fst e, congrArg Prod.snd e⟩
  keeps := fun _ _ _ ⟨K, hK, c⟩ k => ⟨K, PySem.W.Frag.In.keeps hK k, c⟩
theorem obsMG_eq {n : Nat} {fa : List He.Fa} {fn : List He.DefD} {ex : PySem.W.Frag → Bool} {g : Addr → Option Obj} {s : Shared} (h : ∀ a, g a = s.heap.get? a) : obsMG n fa fn ex g = (hookM n fa fn ex).obs s := by
  have e : g = s.heap.get? := funext h
  rw [e] <;> rfl
theorem excF_of {K : PySem.W.Frag} {mg : Str → Option Value} {x : Str} (c : (He.Fa.exc x).ok K = true) (g : mg x = some (.ref (He.ga K x))) : ExcF K mg x :=
  let ⟨a, b, d, e⟩ := He.exc_ok c
  ⟨a, b, d, e, g⟩
/-! ### the law's own def -/
section
variable {P : Program} {w : World} {K : PySem.W.Frag} {mg : Str → Option Value} {base : Heap}
/-- _law_draws: the row of a script -/
def spDraws (K : PySem.W.Frag) : Sp := fun vs H Q _ => ∃ (a : Addr) (ns : List Int), vs = [.ref a] ∧ SqL K H a (ns.map V.int) ∧ ns.length ≤ 1000 ∧ ∀ L r, H L = none → (upd H L (.lst (ns.map V.int))) r = none → Q (.ref r) (upd (upd H L (.lst (ns.map V.int))) r (.lst [.ref L, .int 0, .int 0, .int 7]))
def spLaw (K : PySem.W.Frag) (ok : List Int → Prop) : Sp := fun vs H Q _ => ∃ (a : Addr) (ns : List Int), vs = [.ref a] ∧ SqL K H a (ns.map V.int) ∧ ns.length ≤ 1000 ∧ ok ns ∧ ∀ H', Q (.bl true) H'
/-- the row as it begins -/
def row0 (ns : List Int) : RowS := ⟨ns, 0, 0, 7⟩
theorem law_read {m : M Fl} {n : Nat} {ok : List Int → Prop} {vs : List V} {H : Hp} {Q : VK} {E : XK} {N : List Str} (hN : N.length = n + 2) (hm : ∀ ns, ok ns → ∃ e, m ⟨.no :: .val .row :: List.replicate n .no, row0 ns⟩ = .ok (.rt (.bl true)) e) (h : spLaw K ok vs H Q E) :
    tSeq (tAsg (tCall (spDraws K) [] E0 (tCons (tVar 0) tNil)) (gName 1)) (tS w K (fun cls d _ H' => E cls d H') m) { nx := fun _ H' => Q .non H', rt := Q } (L2.start N vs) H := by
  obtain ⟨a, ns, rfl, hS, hl, ho, q⟩ := h
  refine ⟨.ref a, by unfold L2.start; rfl, a, ns, rfl, hS, hl, fun L r hL hr => ?_⟩
  have hne : r ≠ L := fun z => by
    rw [z, upd_same] at hr
    cases hr
  obtain ⟨e, he⟩ := hm ns ho
  have est : (L2.start N [.ref a]).set 1 (some (V.ref r)) = some (.ref a) :: some (.ref r) :: List.replicate n none := by
    unfold L2.start
    rw [hN]
    simp [List.replicate_succ]
  show tS w K _ m _ ((L2.start N [.ref a]).set 1 (some (V.ref r))) _
  rw [est]
  have fL : (upd (fun _ => none : Hp) L (.lst (ns.map V.int))) L = some (.lst (ns.map V.int)) := upd_same
  refine ⟨r, ⟨fun _ => none, fun _ => False, .non⟩, upd (fun _ => none) L (.lst (ns.map V.int)), ⟨.no :: .val .row :: List.replicate n .no, row0 ns⟩, ⟨fun b u z => ?_, (fun b u z => by cases z), by simp, fun i s hi => ?_, fun i j s1 s2 a a' p hij h1 h2 c1 c2 h3 h4 => ?_, ⟨L, upd_same, fL⟩, by rw [upd_ne hne], rfl, fun b hb => hb.elim⟩, by rw [he]; exact fun σ' F' H' s' R' v rv => by cases rv; exact q H'⟩
  · by_cases c : b = L
    · rw [c, upd_same] at z
      cases z
      rw [c, upd_ne hne.symm, upd_same]
    · rw [upd_ne c] at z
      cases z
  · match i, hi with
    | 0, hi => cases hi; trivial
    | 1, hi => cases hi; exact ⟨.ref r, rfl, .row⟩
    | i + 2, hi =>
      have hi' : (List.replicate n Slot.no)[i]? = some s := hi
      rw [List.getElem?_replicate] at hi'
      split at hi'
      · cases hi'
        trivial
      · cases hi'
  · exfalso
    match i, h1 with
    | 0, h1 => cases h1; cases c1
    | 1, h1 => cases h1; cases c1
    | i + 2, h1 =>
      have hi' : (List.replicate n Slot.no)[i]? = some s1 := h1
      rw [List.getElem?_replicate] at hi'
      split at hi'
      · cases hi'
        cases c1
      · cases hi'
end
/-- whatever the clock of the world -/
def CXA (P : Program) : CXT := fun outer H s E u s' => ∃ w, L2.CX P w outer H s E u s'
theorem FnOk.any {P : Program} {w : World} {K : PySem.W.Frag} {mg : Str → Option Value} {base : Heap} {k : Nat} {f : Addr} {fd : FuncData} {ps : List Str} {sp : Sp} (F : FnOk P w K mg base (L2.CX P w) k f fd ps sp) : FnOk P w K mg base (CXA P) k f fd ps sp :=
  ⟨F.len, fun A outer s H args us vs Q E hr e0 hb r h => codeAny_mono (F.run A outer s H args us vs Q E hr e0 hb r h) fun z s' hq => by
    cases z with
    | error e => exact ⟨w, hq⟩
    | ok fl =>
      cases fl with
      | ret v => exact hq
      | next => exact hq
      | brk => exact hq
      | cont => exact hq⟩
theorem CXA.no {P : Program} (H : Hp) (s : Shared) (e : Value) (s' : Shared) (h : CXA P [] H s (fun _ _ _ => False) e s') : False := by
  obtain ⟨w, a, B, H', cls, d, _, _, _, _, _, _, _, z⟩ := h
  exact z
end Mi

set_option Elab.async false
set_option linter.all false
set_option maxRecDepth 100000
set_option maxHeartbeats 4000000
/-! Mi, part V: the mirror's words at a state. -/
namespace Mi
open PySem
/-- keeps the rewriting out of what comes later -/
inductive Tag {α : Type} (a : α) : Type where
  | mk
def Res.bind {α β : Type} (r : Res α) (f : α → M β) (_ : Tag f := .mk) : Res β := match r with
  | .ok a e => f a e
  | .exc x e => .exc x e
  | .err => .err
@[simp] theorem Res.bind_ok {α β : Type} (a : α) (e : Env) (f : α → M β) (t : Tag f) : (Res.ok a e).bind f t = f a e := rfl
@[simp] theorem Res.bind_exc {α β : Type} (x : Exn) (e : Env) (f : α → M β) (t : Tag f) : (Res.exc x e).bind f t = .exc x e := rfl
@[simp] theorem Res.bind_err {α β : Type} (f : α → M β) (t : Tag f) : (Res.err : Res α).bind f t = .err := rfl
def Res.map {α β : Type} (r : Res α) (f : α → β) : Res β := match r with
  | .ok a e => .ok (f a) e
  | .exc x e => .exc x e
  | .err => .err
@[simp] theorem Res.map_ok {α β : Type} (a : α) (e : Env) (f : α → β) : (Res.ok a e).map f = .ok (f a) e := rfl
@[simp] theorem Res.map_exc {α β : Type} (x : Exn) (e : Env) (f : α → β) : (Res.exc x e).map f = .exc x e := rfl
@[simp] theorem Res.map_err {α β : Type} (f : α → β) : (Res.err : Res α).map f = .err := rfl
section
variable {α β : Type} {m : M α} {f : α → M β} {e : Env} {sl : List Slot} {row : RowS}
@[simp ↓] theorem bindM_app (m : M α) (f : α → M β) (e : Env) : bindM m f e = (m e).bind f := rfl
@[simp ↓] theorem pureM_app (a : α) (e : Env) : pureM a e = .ok a e := rfl
@[simp ↓] theorem errM_app (e : Env) : (errM : M α) e = .err := rfl
@[simp] theorem liftO_some (a : α) (e : Env) : liftO (some a) e = .ok a e := rfl
@[simp] theorem liftO_none (e : Env) : (liftO (none : Option α)) e = .err := rfl
/-! reading slots -/
def rdS (s : Option Slot) (i : Nat) (sl : List Slot) (row : RowS) : Res D := match s with
  | some (.val d) => .ok d ⟨sl, row⟩
  | some (.own o) => .ok o.d ⟨sl.set i (.val o.d), row⟩
  | some (.box l) => .ok (boxD l) ⟨sl.set i (.val (boxD l)), row⟩
  | _ => .err
@[simp] theorem rdS_val (d : D) (i : Nat) (sl : List Slot) (row : RowS) : rdS (some (.val d)) i sl row = .ok d ⟨sl, row⟩ := rfl
@[simp] theorem rdS_box (l : List (D × List D)) (i : Nat) (sl : List Slot) (row : RowS) : rdS (some (.box l)) i sl row = .ok (boxD l) ⟨sl.set i (.val (boxD l)), row⟩ := rfl
@[simp] theorem rdS_own (o : OD) (i : Nat) (sl : List Slot) (row : RowS) : rdS (some (.own o)) i sl row = .ok o.d ⟨sl.set i (.val o.d), row⟩ := rfl
@[simp] theorem od_lst (l : List D) : (OD.lst l).d = .lst l := rfl
@[simp] theorem od_dct (l : List (D × D)) : (OD.dct l).d = .dct l := rfl
@[simp ↓] theorem readM_app (i : Nat) (sl : List Slot) (row : RowS) : readM i ⟨sl, row⟩ = rdS sl[i]? i sl row := by
  unfold readM rdS
  cases sl[i]? with
  | none => rfl
  | some s => cases s <;> rfl
/-- the value of a slot -/
def pkS (s : Option Slot) (e : Env) : Res D := match s with
  | some (.val d) => .ok d e
  | some (.own o) => .ok o.d e
  | _ => .err
@[simp] theorem pkS_val (d : D) (e : Env) : pkS (some (.val d)) e = .ok d e := rfl
@[simp] theorem pkS_own (o : OD) (e : Env) : pkS (some (.own o)) e = .ok o.d e := rfl
def rfS (s : Option Slot) (i : Nat) (e : Env) : Res Ref := match s with
  | some (.val _) => .ok (.slot i) e
  | some (.own _) => .ok (.slot i) e
  | some (.box _) => .ok (.slot i) e
  | _ => .err
@[simp] theorem rfS_val (d : D) (i : Nat) (e : Env) : rfS (some (.val d)) i e = .ok (.slot i) e := rfl
@[simp] theorem rfS_box (l : List (D × List D)) (i : Nat) (e : Env) : rfS (some (.box l)) i e = .ok (.slot i) e := rfl
@[simp] theorem rfS_own (o : OD) (i : Nat) (e : Env) : rfS (some (.own o)) i e = .ok (.slot i) e := rfl
@[simp ↓] theorem refM_app (i : Nat) (e : Env) : refM i e = rfS e.sl[i]? i e := by
  unfold refM rfS
  cases e.sl[i]? with
  | none => rfl
  | some s => cases s <;> rfl
@[simp] theorem derefM_val (d : D) (e : Env) : derefM (.val d) e = .ok d e := rfl
@[simp] theorem derefM_slot (i : Nat) (e : Env) : derefM (.slot i) e = pkS e.sl[i]? e := by
  unfold derefM pkS
  try simp only
  all_goals (cases e.sl[i]? with
  | none => rfl
  | some s => cases s <;> rfl)
@[simp ↓] theorem mapM'_app (m : M α) (g : α → β) (e : Env) : mapM' m g e = (m e).map g := by
  unfold mapM' bindM Res.map
  cases m e <;> rfl
/-! operators -/
@[simp ↓] theorem op1M_app (ma : M Ref) (g : D → Option D) (e : Env) : op1M ma g e = (ma e).bind fun x => bindM (derefM x) fun d => liftO (g d) := rfl
@[simp ↓] theorem op1O_app (ma : M Ref) (g : D → Option OD) (e : Env) : op1O ma g e = (ma e).bind fun x => bindM (derefM x) fun d => liftO (g d) := rfl
@[simp ↓] theorem op2M_app (ma mb : M Ref) (g : D → D → Option D) (e : Env) : op2M ma mb g e = (ma e).bind fun x => bindM mb fun y => bindM (derefM x) fun d => bindM (derefM y) fun d' => liftO (g d d') := rfl
@[simp ↓] theorem opLM_app (r : M (List D)) (g : List D → Option D) (e : Env) : opLM r g e = (r e).bind fun l => liftO (g l) := rfl
def tsD (d : D) (e : Env) : Res Bool := match d with
  | .bl b => .ok b e
  | _ => .err
@[simp] theorem tsD_bl (b : Bool) (e : Env) : tsD (.bl b) e = .ok b e := rfl
@[simp ↓] theorem testM_app (m : M D) (e : Env) : testM m e = (m e).bind tsD := by
  unfold testM bindM Res.bind
  cases m e with
  | ok d e => cases d <;> rfl
  | exc x e => rfl
  | err => rfl
@[simp ↓] theorem negM_app (m : M D) (e : Env) : negM m e = (m e).bind fun d => match d with
  | .int i => pureM (.int (-i))
  | _ => errM := rfl
@[simp ↓] theorem partM_app (m : M D) (e : Env) : partM m e = (m e).bind fun d => match d with
  | .int i => pureM (some i)
  | _ => errM := rfl
@[simp ↓] theorem consM_app (m : M D) (r : M (List D)) (e : Env) : consM m r e = (m e).bind fun d => bindM r fun ds => pureM (d :: ds) := rfl
@[simp ↓] theorem starM_app (m : M Ref) (r : M (List D)) (e : Env) : starM m r e = (m e).bind fun x => bindM (derefM x) fun d => match d.items with
  | some xs => bindM r fun ds => pureM (xs ++ ds)
  | none => errM := rfl
@[simp ↓] theorem tupM_app (r : M (List D)) (e : Env) : tupM r e = (r e).bind fun ds => bindM (small ds) fun _ => pureM (.tup ds) := rfl
@[simp ↓] theorem lstM_app (r : M (List D)) (e : Env) : lstM r e = (r e).bind fun ds => bindM (small ds) fun _ => pureM (.lst ds) := rfl
@[simp ↓] theorem giveM_app (m : M OD) (e : Env) : giveM m e = (m e).map OD.d := mapM'_app _ _ _
@[simp ↓] theorem sliceM_app (m : M Ref) (ml mh : M (Option Int)) (e : Env) : sliceM m ml mh e = (m e).bind fun x => bindM ml fun lo => bindM mh fun hi => bindM (derefM x) fun d => liftO (cutF d lo hi) := rfl
def andD (d : D) (n : M D) (e : Env) (_ : Tag n := .mk) : Res D := match d with
  | .bl true => n e
  | .bl false => .ok (.bl false) e
  | _ => .err
def orD (d : D) (n : M D) (e : Env) (_ : Tag n := .mk) : Res D := match d with
  | .bl true => .ok (.bl true) e
  | .bl false => n e
  | _ => .err
def notD (d : D) (e : Env) : Res D := match d with
  | .bl b => .ok (.bl (!b)) e
  | _ => .err
@[simp] theorem andD_true (n : M D) (e : Env) (t : Tag n) : andD (.bl true) n e t = n e := rfl
@[simp] theorem andD_false (n : M D) (e : Env) (t : Tag n) : andD (.bl false) n e t = .ok (.bl false) e := rfl
@[simp] theorem orD_true (n : M D) (e : Env) (t : Tag n) : orD (.bl true) n e t = .ok (.bl true) e := rfl
@[simp] theorem orD_false (n : M D) (e : Env) (t : Tag n) : orD (.bl false) n e t = n e := rfl
@[simp] theorem notD_bl (b : Bool) (e : Env) : notD (.bl b) e = .ok (.bl (!b)) e := rfl
@[simp ↓] theorem andV_app (m n : M D) (e : Env) : andV m n e = (m e).bind fun d e => andD d n e := by
  unfold andV bindM Res.bind
  cases m e with
  | ok d e1 => (cases d with
    | bl b => cases b <;> rfl
    | _ => rfl)
  | exc x e1 => rfl
  | err => rfl
@[simp ↓] theorem orV_app (m n : M D) (e : Env) : orV m n e = (m e).bind fun d e => orD d n e := by
  unfold orV bindM Res.bind
  cases m e with
  | ok d e1 => (cases d with
    | bl b => cases b <;> rfl
    | _ => rfl)
  | exc x e1 => rfl
  | err => rfl
@[simp ↓] theorem notV_app (m : M D) (e : Env) : notV m e = (m e).bind notD := by
  unfold notV bindM Res.bind
  cases m e with
  | ok d e1 => cases d <;> rfl
  | exc x e1 => rfl
  | err => rfl
def iteR (c : Bool) (m n : M α) (e : Env) (_ : Tag m := .mk) (_ : Tag n := .mk) : Res α := if c = true then m e else n e
@[simp] theorem iteR_true (m n : M α) (e : Env) (t : Tag m) (u : Tag n) : iteR true m n e t u = m e := rfl
@[simp] theorem iteR_false (m n : M α) (e : Env) (t : Tag m) (u : Tag n) : iteR false m n e t u = n e := rfl
@[simp ↓] theorem iteM_app (t : M Bool) (m n : M α) (e : Env) : iteM t m n e = (t e).bind fun c e => iteR c m n e := by
  unfold iteM bindM Res.bind
  cases t e with
  | ok d e1 => cases d <;> rfl
  | exc x e1 => rfl
  | err => rfl
@[simp ↓] theorem andT_app (m n : M Bool) (e : Env) : andT m n e = (m e).bind fun c e => iteR c n (pureM false) e := by
  unfold andT bindM Res.bind
  cases m e with
  | ok d e1 => cases d <;> rfl
  | exc x e1 => rfl
  | err => rfl
@[simp ↓] theorem orT_app (m n : M Bool) (e : Env) : orT m n e = (m e).bind fun c e => iteR c (pureM true) n e := by
  unfold orT bindM Res.bind
  cases m e with
  | ok d e1 => cases d <;> rfl
  | exc x e1 => rfl
  | err => rfl
@[simp ↓] theorem notT_app (m : M Bool) (e : Env) : notT m e = (m e).map (!·) := by
  unfold notT bindM Res.map
  cases m e <;> rfl
def chD (o o' : Int → Int → Bool) (x y : D) (k : M D) (e : Env) (_ : Tag k := .mk) : Res D := match x, y with
  | .int i, .int j => if o i j = true then (k e).bind (fun z => match z with
    | .int l => pureM (.bl (o' j l))
    | _ => errM) else .ok (.bl false) e
  | _, _ => .err
@[simp ↓] theorem chainM_app (o o' : Int → Int → Bool) (m n k : M D) (e : Env) : chainM o o' m n k e = (m e).bind fun x => bindM n fun y e => chD o o' x y k e := by
  unfold chainM bindM Res.bind
  cases m e with
  | ok d e1 =>
    simp only
    cases n e1 with
    | ok d' e2 =>
      cases d <;> cases d' <;> try rfl
      rename_i i j
      show (if o i j = true then _ else _ : M D) e2 = chD o o' _ _ k e2
      unfold chD
      by_cases c : o i j = true
      · simp only [if_pos c]
        rfl
      · simp only [if_neg c]
        rfl
    | exc x e2 => rfl
    | err => rfl
  | exc x e1 => rfl
  | err => rfl
/-! statements -/
def seqR (fl : Fl) (n : M Fl) (e : Env) (_ : Tag n := .mk) : Res Fl := match fl with
  | .nx => n e
  | fl => .ok fl e
@[simp] theorem seqR_nx (n : M Fl) (e : Env) (t : Tag n) : seqR .nx n e t = n e := rfl
@[simp] theorem seqR_rt (d : D) (n : M Fl) (e : Env) (t : Tag n) : seqR (.rt d) n e t = .ok (.rt d) e := rfl
@[simp] theorem seqR_bk (n : M Fl) (e : Env) (t : Tag n) : seqR .bk n e t = .ok .bk e := rfl
@[simp] theorem seqR_ct (n : M Fl) (e : Env) (t : Tag n) : seqR .ct n e t = .ok .ct e := rfl
@[simp ↓] theorem seqM_app (m n : M Fl) (e : Env) : seqM m n e = (m e).bind fun fl e => seqR fl n e := by
  unfold seqM bindM Res.bind
  cases m e with
  | ok d e1 => cases d <;> rfl
  | exc x e1 => rfl
  | err => rfl
@[simp ↓] theorem nxM_app (e : Env) : nxM e = .ok .nx e := rfl
@[simp ↓] theorem retM_app (m : M D) (e : Env) : retM m e = (m e).map Fl.rt := by
  unfold retM bindM Res.map
  cases m e <;> rfl
@[simp ↓] theorem dropM_app (m : M α) (e : Env) : dropM m e = (m e).map fun _ => Fl.nx := by
  unfold dropM bindM Res.map
  cases m e <;> rfl
@[simp ↓] theorem raiseM_app (c : Str) (e : Env) : raiseM c e = .exc ⟨c, []⟩ e := rfl
def setR (i : Nat) (s : Slot) (sl : List Slot) (row : RowS) : Res Unit := if i < sl.length then .ok () ⟨sl.set i s, row⟩ else .err
@[simp ↓] theorem setM_app (i : Nat) (s : Slot) (sl : List Slot) (row : RowS) : setM i s ⟨sl, row⟩ = setR i s sl row := rfl
@[simp ↓] theorem asgM_app (i : Nat) (m : M D) (e : Env) : asgM i m e = (m e).bind fun d => bindM (setM i (.val d)) fun _ => pureM .nx := rfl
@[simp ↓] theorem asgO_app (i : Nat) (m : M OD) (e : Env) : asgO i m e = (m e).bind fun d => bindM (setM i (.own d)) fun _ => pureM .nx := rfl
@[simp ↓] theorem asgG_app (m : M D) (g : D → M Unit) (e : Env) : asgG m g e = (m e).bind fun d => bindM (g d) fun _ => pureM .nx := rfl
@[simp ↓] theorem gN_app (i : Nat) (d : D) (e : Env) : gN i d e = setM i (.val d) e := rfl
@[simp] theorem gsNil_nil (e : Env) : gsNil [] e = .ok () e := rfl
@[simp] theorem gsCons_cons (g : D → M Unit) (gs : List D → M Unit) (d : D) (ds : List D) (e : Env) : gsCons g gs (d :: ds) e = (g d e).bind fun _ => gs ds := rfl
@[simp] theorem gTup2 (gs : List D → M Unit) (a b : D) (e : Env) : gTupM 2 gs (.tup [a, b]) e = gs [a, b] e := rfl
@[simp] theorem gTup3 (gs : List D → M Unit) (a b c : D) (e : Env) : gTupM 3 gs (.tup [a, b, c]) e = gs [a, b, c] e := rfl
@[simp] theorem gTup4 (gs : List D → M Unit) (a b c d : D) (e : Env) : gTupM 4 gs (.tup [a, b, c, d]) e = gs [a, b, c, d] e := rfl
@[simp ↓] theorem consV_app (m : M D) (r : M (List Slot)) (e : Env) : consV m r e = (m e).bind fun d => bindM r fun ss => pureM (.val d :: ss) := rfl
@[simp ↓] theorem consO_app (m : M OD) (r : M (List Slot)) (e : Env) : consO m r e = (m e).bind fun d => bindM r fun ss => pureM (.own d :: ss) := rfl
@[simp ↓] theorem parM_app (is : List Nat) (r : M (List Slot)) (e : Env) : parM is r e = (r e).bind fun ss => bindM (setAll is ss) fun _ => pureM .nx := rfl
@[simp] theorem setAll_nil (e : Env) : setAll [] [] e = .ok () e := rfl
@[simp] theorem setAll_cons' (i : Nat) (is : List Nat) (s : Slot) (ss : List Slot) (e : Env) : setAll (i :: is) (s :: ss) e = (setAll is ss e).bind fun _ => setM i s := rfl
@[simp ↓] theorem valM_app (i : Nat) (e : Env) : valM i e = (match e.sl[i]? with
  | some (.val d) => .ok d e
  | _ => .err) := rfl
@[simp ↓] theorem augM_app (i : Nat) (m : M D) (g : D → D → Option D) (e : Env) : augM i m g e = (valM i e).bind fun x => bindM m fun d => bindM (liftO (g x d)) fun z => bindM (setM i (.val z)) fun _ => pureM .nx := rfl
def olS (s : Option Slot) (e : Env) : Res (List D) := match s with
  | some (.own (.lst l)) => .ok l e
  | _ => .err
@[simp] theorem olS_own (l : List D) (e : Env) : olS (some (.own (.lst l))) e = .ok l e := rfl
@[simp ↓] theorem ownL_app (i : Nat) (e : Env) : ownL i e = olS e.sl[i]? e := by
  unfold ownL olS
  cases e.sl[i]? with
  | none => rfl
  | some s => cases s <;> first | rfl | (rename_i o; cases o <;> rfl)
@[simp ↓] theorem appM_app (i : Nat) (m : M D) (e : Env) : appM i m e = (ownL i e).bind fun _ => bindM m fun d => bindM (ownL i) fun l => bindM (small (l ++ [d])) fun _ => bindM (setM i (.own (.lst (l ++ [d])))) fun _ => pureM .nx := rfl
@[simp ↓] theorem forL_app (mi : M (List D)) (g : D → M Unit) (b : M Fl) (e : Env) : forL mi g b e = (mi e).bind fun ds => forM' g b ds := rfl
@[simp] theorem forM'_nil (g : D → M Unit) (b : M Fl) (e : Env) : forM' g b [] e = .ok .nx e := rfl
def forR (fl : Fl) (n : M Fl) (e : Env) (_ : Tag n := .mk) : Res Fl := match fl with
  | .nx => n e
  | .ct => n e
  | .bk => .ok .nx e
  | .rt d => .ok (.rt d) e
@[simp] theorem forR_nx (n : M Fl) (e : Env) (t : Tag n) : forR .nx n e t = n e := rfl
@[simp] theorem forR_ct (n : M Fl) (e : Env) (t : Tag n) : forR .ct n e t = n e := rfl
@[simp] theorem forR_bk (n : M Fl) (e : Env) (t : Tag n) : forR .bk n e t = .ok .nx e := rfl
@[simp] theorem forR_rt (d : D) (n : M Fl) (e : Env) (t : Tag n) : forR (.rt d) n e t = .ok (.rt d) e := rfl
theorem forM'_cons (g : D → M Unit) (b : M Fl) (d : D) (ds : List D) (e : Env) : forM' g b (d :: ds) e = (g d e).bind fun _ => bindM b fun fl e => forR fl (forM' g b ds) e := by
  show bindM (g d) _ e = _
  unfold bindM Res.bind
  cases g d e with
  | ok u e1 =>
    simp only
    cases b e1 with
    | ok fl e2 => cases fl <;> rfl
    | exc x e2 => rfl
    | err => rfl
  | exc x e1 => rfl
  | err => rfl
@[simp ↓] theorem walkM_app (m : M D) (e : Env) : walkM m e = (m e).bind fun d => liftO (itemsD d) := rfl
@[simp ↓] theorem walkD_app (m : M D) (g : D → Option (List D)) (e : Env) : walkD m g e = (m e).bind fun d => liftO (g d) := rfl
@[simp ↓] theorem listM_app (m : M (List D)) (g : List D → Option (List D)) (e : Env) : listM m g e = (m e).bind fun d => liftO (g d) := rfl
@[simp ↓] theorem lstRgM_app (m n : M D) (e : Env) : lstRgM m n e = (m e).bind fun x => bindM n fun y => liftO ((rg2 x y).map OD.lst) := rfl
@[simp ↓] theorem lcM_app (mi : M (List D)) (g : D → M Unit) (t : M Bool) (el : M D) (vs : List Nat) (e : Env) : lcM mi g t el vs e = (mi e).bind (lcRun g t el vs) := rfl
theorem lcGo_cons (g : D → M Unit) (t : M Bool) (el : M D) (vs : List Nat) (d : D) (ds acc : List D) (e : Env) : lcGo g t el vs (d :: ds) acc e = (g d e).bind fun _ => bindM t fun c e => iteR c (bindM el fun y => bindM (small (acc ++ [y])) fun _ => fun e => lcGo g t el vs ds (acc ++ [y]) (wipeE e vs)) (fun e => lcGo g t el vs ds acc (wipeE e vs)) e := by
  show bindM (g d) _ e = _
  unfold bindM Res.bind
  cases g d e with
  | ok u e1 =>
    simp only
    cases t e1 with
    | ok c e2 => cases c <;> rfl
    | exc x e2 => rfl
    | err => rfl
  | exc x e1 => rfl
  | err => rfl
@[simp] theorem lcGo_nil (g : D → M Unit) (t : M Bool) (el : M D) (vs : List Nat) (acc : List D) (e : Env) : lcGo g t el vs [] acc e = .ok acc e := rfl
/-! calls -/
def clR (r : FRes) (e : Env) : Res D := match r with
  | .ret d row' => .ok d { e with row := row' }
  | .exc x row' => .exc x { e with row := row' }
  | .err => .err
@[simp] theorem clR_ret (d : D) (r : RowS) (e : Env) : clR (.ret d r) e = .ok d { e with row := r } := rfl
@[simp] theorem clR_exc (d : Exn) (r : RowS) (e : Env) : clR (.exc d r) e = .exc d { e with row := r } := rfl
@[simp ↓] theorem callM_app (f : FnM) (r : M (List D)) (e : Env) : callM f r e = (r e).bind fun ds e => clR (f ds e.row) e := by
  unfold callM bindM Res.bind
  cases r e with
  | ok d e1 =>
    show (match f d e1.row with | .ret d row' => Res.ok d { e1 with row := row' } | .exc x row' => Res.exc x { e1 with row := row' } | .err => Res.err) = clR (f d e1.row) e1
    cases f d e1.row <;> rfl
  | exc x e1 => rfl
  | err => rfl
def fnR (r : Res Fl) : FRes := match r with
  | .ok (.rt d) e => .ret d e.row
  | .ok .nx e => .ret .non e.row
  | .ok _ _ => .err
  | .exc x e => .exc x e.row
  | .err => .err
@[simp] theorem fnR_rt (d : D) (e : Env) : fnR (.ok (.rt d) e) = .ret d e.row := rfl
@[simp] theorem fnR_nx (e : Env) : fnR (.ok .nx e) = .ret .non e.row := rfl
@[simp] theorem fnR_exc (x : Exn) (e : Env) : fnR (.exc x e) = .exc x e.row := rfl
theorem fnM_app (k : Nat) (b : M Fl) (ds : List D) (row : RowS) : fnM k b ds row = fnR (b ⟨ds.map Slot.val ++ List.replicate k .no, row⟩) := by
  unfold fnM fnR
  cases b ⟨ds.map Slot.val ++ List.replicate k .no, row⟩ with
  | ok fl e => cases fl <;> rfl
  | exc x e => rfl
  | err => rfl
end
/-! isinstance -/
section
@[simp] theorem isi_int_int (i : Int) : isiF "int" (.int i) = some (.bl true) := by rfl
@[simp] theorem isi_int_bl (i : Bool) : isiF "int" (.bl i) = some (.bl true) := by rfl
@[simp] theorem isi_int_non : isiF "int" .non = some (.bl false) := by rfl
@[simp] theorem isi_int_str (i : Str) : isiF "int" (.str i) = some (.bl false) := by rfl
@[simp] theorem isi_int_tup (i : List D) : isiF "int" (.tup i) = some (.bl false) := by rfl
@[simp] theorem isi_int_lst (i : List D) : isiF "int" (.lst i) = some (.bl false) := by rfl
@[simp] theorem isi_int_dct (i : List (D × D)) : isiF "int" (.dct i) = some (.bl false) := by rfl
@[simp] theorem isi_int_obj (i : List D) : isiF "int" (.obj i) = some (.bl false) := by rfl
@[simp] theorem isi_bool_int (i : Int) : isiF "bool" (.int i) = some (.bl false) := by rfl
@[simp] theorem isi_bool_bl (i : Bool) : isiF "bool" (.bl i) = some (.bl true) := by rfl
@[simp] theorem isi_bool_non : isiF "bool" .non = some (.bl false) := by rfl
@[simp] theorem isi_tuple_int (i : Int) : isiF "tuple" (.int i) = some (.bl false) := by rfl
@[simp] theorem isi_tuple_bl (i : Bool) : isiF "tuple" (.bl i) = some (.bl false) := by rfl
@[simp] theorem isi_tuple_non : isiF "tuple" .non = some (.bl false) := by rfl
@[simp] theorem isi_tuple_str (i : Str) : isiF "tuple" (.str i) = some (.bl false) := by rfl
@[simp] theorem isi_tuple_tup (i : List D) : isiF "tuple" (.tup i) = some (.bl true) := by rfl
@[simp] theorem isi_tuple_lst (i : List D) : isiF "tuple" (.lst i) = some (.bl false) := by rfl
@[simp] theorem isi_tuple_dct (i : List (D × D)) : isiF "tuple" (.dct i) = some (.bl false) := by rfl
@[simp] theorem isi_tuple_obj (i : List D) : isiF "tuple" (.obj i) = some (.bl false) := by rfl
end
end Mi

set_option Elab.async false
set_option linter.all false
set_option maxRecDepth 100000
set_option maxHeartbeats 1000000
/-! Mirrors, part W: try with several clauses, each `as e`. -/
namespace Mi
open PySem PySem.Spec PyProof.Rows L2
/-- a clause of a try, told by its class, its name's slot and its suite's wish -/
abbrev Clause : Type := Value × Nat × (Addr → Value → Option Addr → TS)
/-- what the clauses wish together of the body's exception -/
def asN (K : PySem.W.Frag) (Wo : WX) (D : Ends) : List Clause → WX
  | [] => Wo
  | (c, i, ts) :: l => wAs K c i ts (asN K Wo D l) D
inductive AsOk (X : Cx) : List ExceptHandler → List Clause → Prop
  | non : AsOk X [] []
  | more {x n : Str} {c : Value} {i : Nat} {ts : Addr → Value → Option Addr → TS} {st : Stmt} {sts : List Stmt} {p q : Pos} {hds : List ExceptHandler} {l : List Clause} (named : Names X x c) (at_ : X.N[i]? = some n) (own : X.env.kindOf n = some .local)
      (does : ∀ (ea : Addr) (ob : Obj) (cl : Value) (dt : Option Addr) (pl : List (Addr × Obj)), Zc cl dt ob → (∃ fs, ob.data = .fields fs) → PSs (X.suite ea ((ea, ob) :: pl)) (st :: sts) (ts ea cl dt)) (rest : AsOk X hds l) :
      AsOk X (.ExceptHandler (some (.Name x p)) (some n) (st :: sts) q :: hds) ((c, i, ts) :: l)
theorem psN_try {X : Cx} {body : List Stmt} {cl0 : ExceptHandler} {cls : List ExceptHandler} {l : List Clause} {pos : Pos} {tb : WX → TS} {Wo : WX} (stk : X.stack = X.env :: X.outer) (frm : X.env.frame = some X.env.locals) (nd : X.N.Nodup) (tk : Takes X Wo)
    (bd : ∀ (W : WX) (pl : List (Addr × Obj)) (xe : Value → Shared → Prop), Takes (X.tr pl xe) W → PassesOwn (model X.prog X.w) X.A X.env xe → PSs (X.tr pl xe) body (tb W))
    (all : AsOk X (cl0 :: cls) l) : PS X (.Try body (cl0 :: cls) [] [] pos) (fun D σ H => tb (asN X.K Wo D l) D σ H) := by
  constructor
  intro pins s σ H D I wish
  have good := I.ok
  have frs_ : X.A.frames = some (X.env :: X.outer) := by rw [good.frames, stk]
  refine wpAny_Try_except (wpAny_mono ((bd (asN X.K Wo D l) (X.pn ++ pins) (fun e s₁ => wpAny (model X.prog X.w) X.A (noteFrame e X.env) (fun _ s₂ => wpAny (model X.prog X.w) X.A (setFlight e none) (fun _ s₃ =>
    wpAny (model X.prog X.w) X.A (handleBy e X.env (cl0 :: cls)) (SP X pins D) X.xe s₃) X.xe s₂) X.xe s₁) ?_ PassesOwn.looking).run [] s σ H D (I.toTry _) wish) ?_ fun _ _ z => z)
  · rintro _ s2 ⟨ea, G, sB, pins2, σ2, H2, cl, dt, rfl, J0, kept, upw, sky, free_, osq, gq, w⟩
    have J := J0.ofTry good
    rw [show (X.tr (X.pn ++ pins) _).stack = X.env :: X.outer from stk] at sky
    show wpAny (model X.prog X.w) X.A (noteFrame (.ref ea) X.env) _ _ _
    refine Sky.land Zc.steady frs_ frm sky fun h3 fly up3 => ?_
    have J3 : Inv X pins σ2 H2 { s2 with heap := h3 } := J.landed kept fly.1 (upw.trans up3) osq gq
    obtain ⟨ob3, fs3, got3, z3, dat3⟩ := fly.there
    have off : ea ∉ frs (X.env :: X.outer) := by
      intro hm
      obtain ⟨_, ob', got', nf⟩ := fly.2.2.1.mem hm
      rw [got3] at got'
      cases got'
      exact nf _ dat3
    have offL : ea ≠ X.env.locals := by
      intro z
      exact off (List.mem_filterMap.mpr ⟨X.env, List.mem_cons_self, by rw [frm, z]⟩)
    have offF : ea ∉ X.fs := by
      intro hm
      obtain ⟨en, hen, hq⟩ := List.mem_filterMap.mp hm
      exact off (List.mem_filterMap.mpr ⟨en, List.mem_cons_of_mem _ hen, hq⟩)
    have S3 := J3.suite got3 dat3 free_ offL offF
    have run : ∀ {hds : List ExceptHandler} {l2 : List Clause}, AsOk X hds l2 → asN X.K Wo D l2 cl dt σ2 H2 → wpAny (model X.prog X.w) X.A (handleBy (.ref ea) X.env hds) (SP X pins D) X.xe { s2 with heap := h3 } := by
      intro hds l2 k
      induction k with
      | non =>
        intro w2
        refine wpAny_handleBy_nil ?_
        obtain ⟨_, _, _, ob, fs, T, oT, tr, got, _, dat, f1, _⟩ := id fly
        unfold PySem.passOn
        refine wpAny_bind (wpAny_field got dat f1 ?_)
        rw [if_neg (show ¬ ((Value.ref T == Value.none) = true) from by simp)]
        have out : wpAny (model X.prog X.w) X.A (setFlight (.ref ea) X.env.frame) (fun _ s4 => wpAny (model X.prog X.w) X.A (throw (.ref ea) : Sem Flow) (SP X pins D) X.xe s4) X.xe { s2 with heap := h3 } := by
          rw [frm]
          refine HandSPX.setFlight_upZ fly fun h4 held up4 => wpAny_throw (tk _ _ ⟨ea, G, sB, pins, σ2, H2, cl, dt, rfl, J, kept, (upw.trans up3).trans up4, .inr (.inr (by rw [stk]; exact held)), free_, osq, gq, w2⟩)
        first
          | exact wpAny_bind (wpAny_pure (wpAny_bind out))
          | exact wpAny_bind out
      | @more x n c i ts st sts p q hds2 l3 named at_ own does rest ih =>
        rintro ⟨b, isb, yes, no⟩
        refine wpAny_handleBy_cons (codeAny_handlers_test ?_) (by intro z; cases z)
        have typ : PySem.W.Looks (model X.prog X.w) h3 (typeOf (.ref ea)) cl := fun A Q E s k q => wpAny_typeOf_ref (k _ _ got3) (by rw [z3.1]; exact q)
        have match_ := PySem.W.exm_one (M := model X.prog X.w) (J3.kIn) typ isb
        have asked : ∀ {Q : Value → Shared → Prop} {E : Value → Shared → Prop}, Q c { s2 with heap := h3 } → wpAny (model X.prog X.w) (X.A.mark (some (.ref ea))) (eval (.Name x p) X.env) Q E { s2 with heap := h3 } := by
          intro Q E hq
          obtain ⟨gl, dbg, hm | ⟨hm, hv, hnn⟩⟩ := named
          · exact ld_glob (X := X.suite ea ((ea, ob3) :: (X.pn ++ pins))) S3 gl hm hq dbg
          · exact ld_blt (X := X.suite ea ((ea, ob3) :: (X.pn ++ pins))) S3 gl hm hv hq hnn dbg
        refine asked (match_.here ?_)
        cases b with
        | false => exact ih (no rfl)
        | true =>
          refine codeAny_handlers_suite_as (HandSPX.lands_againZ fly fun h4 fly4 up4 => ?_)
          have J4 : Inv X pins σ2 H2 { s2 with heap := h4 } := J.landed kept fly4.1 ((upw.trans up3).trans up4) osq gq
          obtain ⟨ob4, fs4, got4, z4, dat4⟩ := fly4.there
          refine store_ok (X := X.suite ea ((ea, ob4) :: (X.pn ++ pins))) (v := .ref ea) (J4.suite got4 dat4 free_ offL offF) nd at_ (.inl own) rfl (fun s5 S5 => ?_) (.inr own)
          refine wpAny_mono ((does ea ob4 cl dt (X.pn ++ pins) z4 ⟨_, dat4⟩).run [] s5 _ H2 _ S5 (yes rfl ea free_)) (fun f s6 hsp => ?_) fun _ _ z => z.elim
          have fin : ∀ {σ6 : St} {H6 : Hp} {Q : Shared → Prop}, Inv (X.suite ea ((ea, ob4) :: (X.pn ++ pins))) [] σ6 H6 s6 → (∀ s7, Inv X pins (σ6.set i none) H6 s7 → Q s7) →
              wpAny (model X.prog X.w) X.A (do bindName X.env n .none; unbindBehindTheSuite X.env n q) (fun _ s7 => Q s7) X.xe s6 := fun S6 hq => gone_ok (S6.unsuite good) nd at_ own hq
          cases f with
          | ret u =>
            obtain ⟨v6, σ6, H6, S6, r6, q6⟩ := hsp
            exact fin S6 fun _ J7 => ⟨_, _, _, J7, r6, q6⟩
          | next => exact hsp.elim fun _ h => h.elim fun _ h => fin h.1 fun _ J7 => ⟨_, _, J7, h.2⟩
          | brk => exact hsp.elim fun _ h => h.elim fun _ h => fin h.1 fun _ J7 => ⟨_, _, J7, h.2⟩
          | cont => exact hsp.elim fun _ h => h.elim fun _ h => fin h.1 fun _ J7 => ⟨_, _, J7, h.2⟩
    exact run all w
  · intro f s1 hsp
    cases f with
    | ret u =>
      obtain ⟨v, σ2, H2, J2, r, q⟩ := hsp
      exact ⟨v, σ2, H2, J2.ofTry good, r, q⟩
    | next => exact hsp.elim fun σ2 h => h.elim fun H2 h => wpAny_execs_nil ⟨σ2, H2, h.1.ofTry good, h.2⟩
    | brk => exact hsp.elim fun σ2 h => h.elim fun H2 h => ⟨σ2, H2, h.1.ofTry good, h.2⟩
    | cont => exact hsp.elim fun σ2 h => h.elim fun H2 h => ⟨σ2, H2, h.1.ofTry good, h.2⟩
/-! the mirror's side -/
/-- a clause's wish, by its mirror -/
def clT (w : World) (K : PySem.W.Frag) (cs : List Str) (i : Nat) (m : M Fl) : Addr → Value → Option Addr → TS := fun a cl d D' σ H => ∃ c' ∈ cs, cl = .ref (He.ga K c') ∧ d = none ∧ σ[i]? = some (some (.ref a)) ∧ tS w K WN m D' σ H
def clL (w : World) (K : PySem.W.Frag) (cs : List Str) (hs : List (Str × Nat × M Fl)) : List Clause := hs.map fun h => (.ref (He.ga K h.1), h.2.1, clT w K cs h.2.1 h.2.2)
section
variable {X : Cx} {W : WX} {cs : List Str}
/-- clauses `except c as n: y = A if isinstance(n, CutError) else B`, with their mirrors -/
inductive HdM (X : Cx) (cs : List Str) : List ExceptHandler → List (Str × Nat × M Fl) → Prop
  | nil : HdM X cs [] []
  | cons {hds : List ExceptHandler} {hs : List (Str × Nat × M Fl)} {i j : Nat} {c y n : Str} {py np p p2 p3 p4 p5 pos1 pos' : Pos} {A B : Expr} {mA : M D} (hcc : c ∈ cs)
    (hA : ∀ (a : Addr) (oe : Obj) (pn : List (Addr × Obj)), PM (X.suite a ((a, oe) :: pn)) WN A mA) (hB : ∀ (a : Addr) (oe : Obj) (pn : List (Addr × Obj)), PM (X.suite a ((a, oe) :: pn)) WN B errM) (hm : X.mg "isinstance" = none) (r : HdM X cs hds hs) (hi : X.N[i]? = some n := by rfl) (hj : X.N[j]? = some y := by rfl) (hij : i ≠ j := by decide)
    (hln : X.env.kindOf n = some .local := by rfl) (hvi : Vis X.env.scope n := by first | exact Or.inl rfl | exact Or.inr (Or.inl rfl) | exact Or.inr (Or.inr rfl))
    (hdn : (n == ("__debug__" : Str)) = false := by decide) (hcn : (n == ("__classdict__" : Str)) = false := by decide) (hdc : (c == ("__debug__" : Str)) = false := by decide) (hgx : Gl X c := by rfl)
    (hyl : Loc X.env.scope y := by first | exact Or.inl rfl | exact Or.inr rfl) (hgi : Gl X "isinstance" := by rfl) (hgc : Gl X "CutError" := by rfl) (hse : starEach [.Name n p2, .Name "CutError" p3] X.env = (false, eval (.Name n p2) X.env) :: starEach [.Name "CutError" p3] X.env := by rfl)
    (hsw : swapsWith (.IfExp (.Call (.Name "isinstance" p) [.Name n p2, .Name "CutError" p3] [] p4) A B p5) (some (.Name y py)) pos1.line X.env = pure false := by rfl) (hfn : X.fn y = true ∨ X.env.scope.names.lookup y = some .local := by first | exact .inl rfl | exact .inr rfl | assumption) :
    HdM X cs (.ExceptHandler (some (.Name c np)) (some n) [.Assign [.Name y py] (.IfExp (.Call (.Name "isinstance" p) [.Name n p2, .Name "CutError" p3] [] p4) A B p5) pos1] pos' :: hds) ((c, i, asgM j mA) :: hs)
theorem HdM.mem {hds : List ExceptHandler} {hs : List (Str × Nat × M Fl)} (h : HdM X cs hds hs) : ∀ k ∈ hs, k.1 ∈ cs := by
  induction h with
  | nil => exact fun _ z => by cases z
  | cons hcc hA hB hm r hi hj hij hln hvi hdn hcn hdc hgx hyl hgi hgc hse hsw hfn ih =>
    intro k hk
    rcases List.mem_cons.mp hk with z | z
    · rw [z]
      exact hcc
    · exact ih k z
theorem HdM.ok {hds : List ExceptHandler} {hs : List (Str × Nat × M Fl)} (T : ExTab X.K X.mg cs) (hN : X.N.Nodup) (h : HdM X cs hds hs) : AsOk X hds (clL X.w X.K cs hs) := by
  induction h with
  | nil => exact .non
  | cons hcc hA hB hm r hi hj hij hln hvi hdn hcn hdc hgx hyl hgi hgc hse hsw hfn ih =>
    refine .more ⟨hgx, hdc, .inl (T.g _ hcc)⟩ hi hln (fun a oe cl d pn hz hfd => ⟨fun pins s σ H D' I h => ?_⟩) ih
    obtain ⟨c', hc', rfl, rfl, e1, h⟩ := h
    exact (suite_is T hc' hz hfd (hA a oe pn) (hB a oe pn) hm hN hi hj hvi hdn hcn hyl hgi hgc hse hsw hfn).run pins s σ H D' I ⟨e1, h⟩
end
end Mi

set_option Elab.async false
set_option linter.all false
set_option maxRecDepth 100000
set_option maxHeartbeats 4000000
/-! Mirrors, part X: dicts of one's own: {}, {k: v}, d[k] = v, d.get(k, x). -/
namespace Mi
open PySem PySem.Spec PyProof.Rows L2
/-! ### {} -/
/-! ### d[k] = v -/
section
variable {X : Cx} {pins : List (Addr × Obj)} {σ : L2.St} {H F : Hp} {s : Shared} {ra a : Addr} {es : List (NestedKey × V × V)} {kvs : List (D × D)} {dk : D} {k : NestedKey} {kv vv : V} {u r : Value} {A : Around} {E : Value → Shared → Prop} {Q : Unit → Shared → Prop}
end
/-- the name is a dict of one's own -/
def ownD (i : Nat) : M (List (D × D)) := fun e => match e.sl[i]? with
  | some (.own (.dct l)) => .ok l e
  | _ => .err
def keyOk (kvs : List (D × D)) (dk : D) : Bool := kindOk kvs dk && dk.hk.isSome
def roomD (kvs : List (D × D)) (dk : D) : M Unit := fun e => if (keyOk kvs dk && decide (kvs.length < 1000000)) = true then .ok () e else .err
def putM (i : Nat) (mk mv : M D) : M Fl := bindM mv fun dv => bindM (ownD i) fun _ => bindM mk fun dk => bindM (ownD i) fun kvs => bindM (roomD kvs dk) fun _ => bindM (setM i (.own (.dct (dput kvs dk dv)))) fun _ => pureM .nx
/-! ### {k: v} -/
def disp1M (mk mv : M D) : M OD := fun e => match mk e with
  | .ok dk e1 => (match mv e1 with
    | .ok dv e2 => if keyOk [] dk = true then .ok (.dct [(dk, dv)]) e2 else .err
    | _ => .err)
  | _ => .err
/-! ### d.get(k, x) -/
section
variable {X : Cx} {pins : List (Addr × Obj)} {σ : L2.St} {H F : Hp} {s : Shared} {ra a : Addr} {es : List (NestedKey × V × V)} {kvs : List (D × D)} {dk : D} {kv xv : V} {u r : Value} {A : Around} {E : Value → Shared → Prop} {Q : Value → Shared → Prop}
end
def getM (md : M Ref) (mk mx : M D) : M D := bindM md fun r => bindM (derefM r) fun d => match d with
  | .dct _ => bindM mk fun dk => bindM mx fun dx => bindM (derefM r) fun d => match d with
    | .dct kvs => if keyOk kvs dk = true then pureM ((dget kvs dk).getD dx) else errM
    | _ => errM
  | _ => errM
/-- what a container is called stays so, where the names stay -/
theorem TR.keep {w : World} {K : PySem.W.Frag} {ra : Addr} {HK : Kp} {σ : L2.St} {e e' : Env} {F F' H H' : Hp} {v : V} {r : Ref} (t : TR w K ra HK σ e F H v r) (s : Same F F') : TR w K ra HK σ e' F' H' v r := by
  cases r with
  | val d => exact Rep.mono s t
  | slot i => exact t
end Mi

set_option Elab.async false
set_option linter.all false
set_option maxRecDepth 100000
set_option maxHeartbeats 4000000
/-! Mirrors, part Y: xs[i] = v, xs[i] += n, d[k] += n; properties of a Rule. -/
namespace Mi
open PySem PySem.Spec PyProof.Rows L2
section
variable {X : Cx} {W : WX} {x : Str} {p pos pos2 : Pos}
def setIxM (i : Nat) (mk mv : M D) : M Fl := bindM mv fun dv => bindM (ownL i) fun _ => bindM mk fun dk => match dk with
  | .int k => bindM (ownL i) fun l => (match ixN l.length k with
    | some j => bindM (setM i (.own (.lst (l.set j dv)))) fun _ => pureM .nx
    | none => errM)
  | _ => errM
theorem psm_setIx {idx e : Expr} {mk mv : M D} (i : Nat) (hk : PM X W idx mk) (he : PM X W e mv) (hN : X.N[i]? = some x := by rfl) (hv : Vis X.env.scope x := by first | exact Or.inl rfl | exact Or.inr (Or.inl rfl) | exact Or.inr (Or.inr rfl)) (hd : (x == ("__debug__" : Str)) = false := by decide)
    (hcd : (x == ("__classdict__" : Str)) = false := by decide) (hs : swapsWithSole [.Subscript (.Name x p) idx pos] e pos2.line X.env = pure false := by rfl) (hw : swappedStores [.Subscript (.Name x p) idx pos] e X.env = pure none := by rfl)
    (h1 : (assignEach [.Subscript (.Name x p) idx pos] X.env).map (·.2) = [assign (.Subscript (.Name x p) idx pos) X.env] := by rfl)
    (ha : ∀ w, assign (.Subscript (.Name x p) idx pos) X.env w = (do let ov ← holding [w] (eval (.Name x p) X.env); let iv ← holding [w, ov] (eval idx X.env); standAt pos; holding [w, ov, iv] (setItem ov iv w); release [w, ov, iv] []) := by intros; rfl) : PSM X W (.Assign [.Subscript (.Name x p) idx pos] e pos2) (setIxM i mk mv) := by
  refine PS.weaken (ps_asg he (pg_sub (pe_var hN hv hd hcd) hk set_list ha) hs hw h1) ?_
  rintro D' σ H ⟨ra, HK, F, e, R, h⟩
  unfold setIxM at h
  refine stepS R h fun F1 e1 dv v H1 s1 R1 r1 q1 => ?_
  obtain ⟨l, q, h2⟩ := wp_ownL q1
  obtain ⟨a, ea, _⟩ := R1.sl i _ q
  refine ⟨.ref a, ea, ?_⟩
  refine stepS R1 h2 fun F2 e2 dk y H2 s2 R2 r2 q2 => ?_
  cases dk with
  | int k =>
    obtain ⟨l2, q3, h3⟩ := wp_ownL q2
    obtain ⟨a2, ea2, ⟨vs, hH, rp⟩, _⟩ := R2.sl i _ q3
    rw [ea] at ea2
    cases ea2
    cases ej : ixN l2.length k with
    | none =>
      simp only [ej] at h3
      exact h3.elim
    | some j =>
      simp only [ej] at h3
      obtain ⟨hl, h5⟩ := wp_setM h3
      have ry : y = .int k := by
        cases r2
        rfl
      subst ry
      exact ⟨a, vs, k, j, rfl, rfl, hH, by rw [rp.length]; exact ej, h5 _ F2 _ (Same.refl F2) (R2.store q3 ea ⟨_, upd_same, RepA.set (Rep.mono s2 r1) j rp⟩)⟩
  | _ => exact q2.elim
end
/-! ### a list of one's own: xs * n -/
def op2O (ma mb : M Ref) (f : D → D → Option OD) : M OD := bindM ma fun x => bindM mb fun y => bindM (derefM x) fun d => bindM (derefM y) fun d' => liftO (f d d')
section
variable {X : Cx} {W : WX} {a b : Expr} {ma mb : M Ref} {pos : Pos}
end
/-! ### a, b = x, y where a name is read from inside (the pair itself is laid and not tracked) -/
section
variable {X : Cx} {W : WX} {r : M (List Slot)}
theorem TSl.length {w : World} {K : PySem.W.Frag} {ra : Addr} {F1 H1 : Hp} {σ : L2.St} : ∀ (is : List Nat) (vs : List V) (ss : List Slot) (HK : Kp) (e1 e2 : Env), TSl vs ss w K ra HK σ e1 F1 H1 → setAll is ss e1 = .ok () e2 → vs.length = is.length := by
      intro is
      induction is with
      | nil =>
        intro vs ss HK e1 e2 t q
        match vs, ss, t, q with
        | [], [], _, _ => rfl
        | _, _ :: _, _, q => cases q
        | _ :: _, [], t, _ => exact t.elim
      | cons i is ih =>
        intro vs ss HK e1 e2 t q
        match vs, ss, t, q with
        | [], [], _, q => cases q
        | [], _ :: _, t, _ => exact t.elim
        | _ :: _, [], t, _ => exact t.elim
        | v :: vs, .val d :: ss, t, q =>
          obtain ⟨e3, q1, _⟩ := setAll_cons q
          rw [List.length_cons, List.length_cons, ih vs ss HK e1 e3 t.2 q1]
        | v :: vs, .own o :: ss, t, q =>
          obtain ⟨e3, q1, _⟩ := setAll_cons q
          obtain ⟨a, u, _, _, _, _, t⟩ := t
          rw [List.length_cons, List.length_cons, ih vs ss _ e1 e3 t q1]
        | _ :: _, .no :: _, t, _ => exact t.elim
        | _ :: _, .pin :: _, t, _ => exact t.elim
        | v :: vs, .box l :: ss, t, q =>
          obtain ⟨e3, q1, _⟩ := setAll_cons q
          obtain ⟨rfl, rfl, _⟩ := t
          cases is with
          | nil => rfl
          | cons j is => cases q1
end
/-! ### max of the keys of a dict -/
section
variable {X : Cx} {W : WX} {a : Expr} {ma : M Ref} {pos : Pos}
end
end Mi

set_option Elab.async false
set_option linter.all false
set_option maxRecDepth 100000
set_option maxHeartbeats 4000000
/-! Mirrors, part Z: errors with fields: raised, caught, read. -/
namespace Mi
open PySem PySem.Spec PyProof.Rows L2
/-! ### what the snapshot says of such a class -/
def oexB (K : PySem.W.Frag) (C : Addr) : Bool := match K.lookup C with
  | some ⟨.type "type", _, .cls cd, sl⟩ => (match cd.mro, sl.toList with
    | .ref C' :: bm, [_, _, _, _, some (.builtin n), _] => C' == C && (n == "ValueError.__new__" && (!cd.hasDel && (cd.hasDict && PySem.HandSPX.refsVE bm)))
    | _, _ => false)
  | _ => false
theorem oexB_ok {K : PySem.W.Frag} {C : Addr} (h : oexB K C = true) : ∃ nm q N bs bm sn sub ab col dd k0 k1 k2 k3 k5, K.lookup C = some (excClassObj nm q C N bs bm true sn sub ab col dd k0 k1 k2 k3 k5 "ValueError.__new__") ∧ PySem.HandSPX.refsVE bm = true := by
  unfold oexB at h
  split at h
  · rename_i dd cd sl ho
    split at h
    · rename_i C' bm k0 k1 k2 k3 n k5 hm hs
      simp only [Bool.and_eq_true, beq_iff_eq, Bool.not_eq_true'] at h
      obtain ⟨rfl, rfl, hdel, hdct, hb⟩ := h
      obtain ⟨nm, bs, mro, ns, qn, hd, sn, sub, ab, col, del⟩ := cd
      dsimp only at hm hdel hdct
      subst hm hdel hdct
      have hsl : sl = #[k0, k1, k2, k3, some (.builtin "ValueError.__new__"), k5] := by
        obtain ⟨l⟩ := sl
        simp only at hs
        rw [hs]
      subst hsl
      exact ⟨nm, qn, ns, bs, bm, sn, sub, ab, col, dd, k0, k1, k2, k3, k5, ho, hb⟩
    · cases h
  · cases h
def xB (K : PySem.W.Frag) (x : Str) (fs : List Str) : Bool := oexB K (He.ga K x) && (decide (PySem.W.findIn K (.ref (He.ga K x)) "__setattr__" = some (some (.builtin "object.__setattr__"))) && (decide (PySem.W.subIn K (.ref (He.ga K x)) (.type "BaseException") = some true) &&
  (decide (PySem.W.typeIn K (.ref (He.ga K x)) = some (.type "type")) && (PySem.W.keepIn K (.ref (He.ga K x)) && (decide (PySem.W.findIn K (.ref (He.ga K x)) "__init__" = some (some (.ref (He.ma K (He.ga K x) "__init__")))) &&
  (decide (PySem.W.typeIn K (.ref (He.ma K (He.ga K x) "__init__")) = some (.type "function")) && fs.all fun f => decide (PySem.W.findIn K (.ref (He.ga K x)) f = some none)))))))
structure ExcI (K : PySem.W.Frag) (mg : Str → Option Value) (x : Str) (fs : List Str) : Prop where
  T : OexC K (He.ga K x)
  iC : PySem.W.findIn K (.ref (He.ga K x)) "__init__" = some (some (.ref (He.ma K (He.ga K x) "__init__")))
  tI : PySem.W.typeIn K (.ref (He.ma K (He.ga K x) "__init__")) = some (.type "function")
  nf : ∀ f ∈ fs, PySem.W.findIn K (.ref (He.ga K x)) f = some none
  g : mg x = some (.ref (He.ga K x))
theorem xB_ok {K : PySem.W.Frag} {mg : Str → Option Value} {x : Str} {fs : List Str} (h : xB K x fs = true) (g : mg x = some (.ref (He.ga K x))) : ExcI K mg x fs := by
  unfold xB at h
  simp only [Bool.and_eq_true, decide_eq_true_eq, List.all_eq_true] at h
  obtain ⟨h1, h2, h3, h4, h5, h6, h7, h8⟩ := h
  exact ⟨⟨oexB_ok h1, h2, h3, h4, h5⟩, h6, h7, h8, g⟩
/-! ### their __init__ -/
def spX (K : PySem.W.Frag) (C : Addr) (fs : List Str) : Sp := fun vs H Q _ => ∃ (a : Addr) (ws : List V), vs = .ref a :: ws ∧ ws.length = fs.length ∧ H a = some (exo a C none) ∧
  ∀ (dx : Addr) (H2 : Hp), H dx = none → dx ≠ a → H2 a = some (exo a C (some dx)) → H2 dx = some (exd dx (fs.zip ws).reverse) → (∀ b, b ≠ a → b ≠ dx → H2 b = H b) → Q .non H2
structure XInit (P : Program) (w : World) (K : PySem.W.Frag) (mg : Str → Option Value) (base : Heap) (x : Str) (fs : List Str) (k : Nat) : Prop where
  c : ExcI K mg x fs
  ex : ∃ fd ps, FnOk P w K mg base (L2.CX P w) k (He.ma K (He.ga K x) "__init__") fd ps (spX K (He.ga K x) fs) ∧ Binds K fd ps []
section
variable {P : Program} {w : World} {K : PySem.W.Frag} {mg : Str → Option Value} {base : Heap} {x qual self a1 a2 f1 f2 : Str} {params : Arguments} {scope : Scope} {fd : FuncData} {p1 p2 p3 p4 q1 q2 q3 q4 : Pos}
theorem xinit1 (c : ExcI K mg x [f1]) (FD : FunD K "__init__" qual params [.Assign [.Attribute (.Name self p1) f1 p2] (.Name a1 p3) p4] scope [] [] (He.ma K (He.ga K x) "__init__") fd) (S : FnScope [self, a1] [self, a1] scope) (hb : Binds K fd [self, a1] [])
    (hd0 : (self == ("__debug__" : Str)) = false := by decide) (hc0 : (self == ("__classdict__" : Str)) = false := by decide) (hd1 : (a1 == ("__debug__" : Str)) = false := by decide) (hc1 : (a1 == ("__classdict__" : Str)) = false := by decide)
    (hv0 : ∀ (cdv : Value) (A : Around) (outer : List PySem.Env) (s : Shared) (H : Hp) (E : XK), Vis (cxOf (L2.CX P w) P w K mg base [self, a1] qual scope (He.ma K (He.ga K x) "__init__") cdv A outer s H E).env.scope self) (hv1 : ∀ (cdv : Value) (A : Around) (outer : List PySem.Env) (s : Shared) (H : Hp) (E : XK), Vis (cxOf (L2.CX P w) P w K mg base [self, a1] qual scope (He.ma K (He.ga K x) "__init__") cdv A outer s H E).env.scope a1)
    (hs : ∀ (cdv : Value) (A : Around) (outer : List PySem.Env) (s : Shared) (H : Hp) (E : XK), swapsWith (.Name a1 p3) (some (.Attribute (.Name self p1) f1 p2)) p4.line (cxOf (L2.CX P w) P w K mg base [self, a1] qual scope (He.ma K (He.ga K x) "__init__") cdv A outer s H E).env = pure false) : XInit P w K mg base x [f1] 1 := by
  refine ⟨c, fd, _, FD.ok S (fun vs H Q E h => ?_) (fun cdv A outer s H vs Q E hr h => ⟨_, pss_one (ps_ost (pe_var (i := 0) rfl (hv0 cdv A outer s H E) hd0 hc0) (pe_var (i := 1) rfl (hv1 cdv A outer s H E) hd1 hc1) (hs cdv A outer s H E)), ?_⟩), hb⟩
  · obtain ⟨a, ws, rfl, hl, _⟩ := h
    simp at hl ⊢
    exact hl
  · obtain ⟨a, ws, rfl, hl, ha, q⟩ := h
    match ws, hl with
    | [y], _ =>
      refine ⟨y, rfl, .ref a, rfl, a, He.ga K x, rfl, c.T, c.nf f1 List.mem_cons_self, .inl ⟨ha, fun dx hdx hne => ?_⟩⟩
      exact q dx _ hdx hne upd_same (by rw [upd_ne hne, upd_same]; rfl) fun b h1 h2 => by rw [upd_ne h1, upd_ne h2]
theorem xinit2 (c : ExcI K mg x [f1, f2]) (FD : FunD K "__init__" qual params [.Assign [.Attribute (.Name self p1) f1 p2] (.Name a1 p3) p4, .Assign [.Attribute (.Name self q1) f2 q2] (.Name a2 q3) q4] scope [] [] (He.ma K (He.ga K x) "__init__") fd) (S : FnScope [self, a1, a2] [self, a1, a2] scope) (hb : Binds K fd [self, a1, a2] [])
    (hd0 : (self == ("__debug__" : Str)) = false := by decide) (hc0 : (self == ("__classdict__" : Str)) = false := by decide) (hd1 : (a1 == ("__debug__" : Str)) = false := by decide) (hc1 : (a1 == ("__classdict__" : Str)) = false := by decide) (hd2 : (a2 == ("__debug__" : Str)) = false := by decide) (hc2 : (a2 == ("__classdict__" : Str)) = false := by decide)
    (hv0 : ∀ (cdv : Value) (A : Around) (outer : List PySem.Env) (s : Shared) (H : Hp) (E : XK), Vis (cxOf (L2.CX P w) P w K mg base [self, a1, a2] qual scope (He.ma K (He.ga K x) "__init__") cdv A outer s H E).env.scope self) (hv1 : ∀ (cdv : Value) (A : Around) (outer : List PySem.Env) (s : Shared) (H : Hp) (E : XK), Vis (cxOf (L2.CX P w) P w K mg base [self, a1, a2] qual scope (He.ma K (He.ga K x) "__init__") cdv A outer s H E).env.scope a1)
    (hv2 : ∀ (cdv : Value) (A : Around) (outer : List PySem.Env) (s : Shared) (H : Hp) (E : XK), Vis (cxOf (L2.CX P w) P w K mg base [self, a1, a2] qual scope (He.ma K (He.ga K x) "__init__") cdv A outer s H E).env.scope a2)
    (hs : ∀ (cdv : Value) (A : Around) (outer : List PySem.Env) (s : Shared) (H : Hp) (E : XK), swapsWith (.Name a1 p3) (some (.Attribute (.Name self p1) f1 p2)) p4.line (cxOf (L2.CX P w) P w K mg base [self, a1, a2] qual scope (He.ma K (He.ga K x) "__init__") cdv A outer s H E).env = pure false)
    (hs2 : ∀ (cdv : Value) (A : Around) (outer : List PySem.Env) (s : Shared) (H : Hp) (E : XK), swapsWith (.Name a2 q3) (some (.Attribute (.Name self q1) f2 q2)) q4.line (cxOf (L2.CX P w) P w K mg base [self, a1, a2] qual scope (He.ma K (He.ga K x) "__init__") cdv A outer s H E).env = pure false) : XInit P w K mg base x [f1, f2] 1 := by
  refine ⟨c, fd, _, FD.ok S (fun vs H Q E h => ?_) (fun cdv A outer s H vs Q E hr h => ⟨_, pss_cons (ps_ost (pe_var (i := 0) rfl (hv0 cdv A outer s H E) hd0 hc0) (pe_var (i := 1) rfl (hv1 cdv A outer s H E) hd1 hc1) (hs cdv A outer s H E)) (pss_one (ps_ost (pe_var (i := 0) rfl (hv0 cdv A outer s H E) hd0 hc0) (pe_var (i := 2) rfl (hv2 cdv A outer s H E) hd2 hc2) (hs2 cdv A outer s H E))), ?_⟩), hb⟩
  · obtain ⟨a, ws, rfl, hl, _⟩ := h
    simp at hl ⊢
    exact hl
  · obtain ⟨a, ws, rfl, hl, ha, q⟩ := h
    match ws, hl with
    | [y, z], _ =>
      refine ⟨y, rfl, .ref a, rfl, a, He.ga K x, rfl, c.T, c.nf f1 List.mem_cons_self, .inl ⟨ha, fun dx hdx hne => ?_⟩⟩
      refine ⟨z, rfl, .ref a, rfl, a, He.ga K x, rfl, c.T, c.nf f2 (List.mem_cons_of_mem _ List.mem_cons_self), .inr ⟨dx, [(f1, y)], upd_same, by rw [upd_ne hne, upd_same], (show 1 ≤ 900 by decide), ?_⟩⟩
      exact q dx _ hdx hne (by rw [upd_ne hne.symm, upd_same]) upd_same fun b h1 h2 => by rw [upd_ne h2, upd_ne h1, upd_ne h2]
end
/-! ### raise C(e, ..) -/
def raiseXM (c : Str) (fs : List Str) (r : M (List D)) : M Fl := bindM r fun ds e => .exc ⟨c, (fs.zip ds).reverse⟩ e
theorem zip_rev {α β : Type} : ∀ {l : List α} {m : List β}, l.length = m.length → (l.zip m).reverse = l.reverse.zip m.reverse
  | [], [], _ => rfl
  | [], _ :: _, h => by cases h
  | _ :: _, [], h => by cases h
  | x :: l, y :: m, h => by
    have h' : l.length = m.length := by simpa using h
    rw [List.zip_cons_cons, List.reverse_cons, List.reverse_cons, List.reverse_cons, zip_rev h', List.zip_append (by simpa using h')]
    rfl
theorem zip_fst {α β : Type} : ∀ {l : List α} {m : List β}, l.length = m.length → (l.zip m).map (·.1) = l
  | [], [], _ => rfl
  | [], _ :: _, h => by cases h
  | _ :: _, [], h => by cases h
  | x :: l, y :: m, h => by
    have h' : l.length = m.length := by simpa using h
    rw [List.zip_cons_cons, List.map_cons, zip_fst h']
theorem zip_snd {α β : Type} : ∀ {l : List α} {m : List β}, l.length = m.length → (l.zip m).map (·.2) = m
  | [], [], _ => rfl
  | [], _ :: _, h => by cases h
  | _ :: _, [], h => by cases h
  | x :: l, y :: m, h => by
    have h' : l.length = m.length := by simpa using h
    rw [List.zip_cons_cons, List.map_cons, zip_snd h']
theorem psm_raiseX {X : Cx} {W : WX} {x : Str} {fs : List Str} {k k' : Nat} {e : Expr} {es : List Expr} {p pos pos2 : Pos} {r : M (List D)} (F0 : XInit X.prog X.w X.K X.mg X.base x fs k) (hfs : fs ≠ []) (hr : Room k' X.A) (tk : Takes X W) (ha : PMA X W (e :: es) r) (hn : ∀ e ds e', r e = .ok ds e' → ds.length = fs.length) (hl : fs.length ≤ 10 := by decide) (hk : k + 1 ≤ k' := by decide) (hc : X.calm = true := by rfl) (hg : Gl X x := by rfl)
    (hdb : (x == ("__debug__" : Str)) = false := by decide) (he : starEach (e :: es) X.env = (false, eval e X.env) :: starEach es X.env := by rfl) (hpl : (backTo pos (starEach es X.env)).any (·.1) = false := by rfl) : PSM X W (.Raise (some (.Call (.Name x p) (e :: es) [] pos)) none pos2) (raiseXM x fs r) := by
  obtain ⟨fd, ps, F1, hb⟩ := F0.ex
  refine PS.weaken (ps_raise hc tk (pmk_oex F0.c.T F0.c.iC F0.c.tI F1 (hr.mono hk) hb .nil passL hg F0.c.g ha hdb he hpl)) ?_
  rintro D' σ H ⟨ra, HK, F, e0, R, h⟩
  unfold raiseXM at h
  have h0 := wp_bind.mp h
  refine ⟨ra, HK, F, e0, R, ?_⟩
  cases er : r e0 with
  | err =>
    rw [er] at h0
    exact h0
  | exc y e1 =>
    rw [er] at h0
    exact h0
  | ok ds e1 =>
    rw [er] at h0
    intro vs F1 H1 s1 R1 r1
    have lds := hn _ _ _ er
    have lvs : vs.length = ds.length := RepA.length r1
    have l1 : fs.length = vs.length := by omega
    refine ⟨by omega, fun a ha' => ⟨a, vs, by simp, by omega, upd_same, fun dx H2 hdx hne e1' e2 hoth => ⟨rfl, dx, _, e1', e2, ?_, ?_⟩⟩⟩
    · rw [upd_ne hne] at hdx
      exact hdx
    · have hdx' : H1 dx = none := by
        rw [upd_ne hne] at hdx
        exact hdx
      have eH : upd (del H2 a) dx (.xd (fs.zip vs).reverse) = upd H1 dx (.xd (fs.zip vs).reverse) := by
        funext b
        by_cases hb1 : b = dx
        · rw [hb1, upd_same, upd_same]
        · rw [upd_ne hb1, upd_ne hb1]
          by_cases hb2 : b = a
          · rw [hb2, del_same, ha']
          · rw [del_ne hb2, hoth b hb2 hb1, upd_ne hb2]
      rw [eH]
      have h1 : exW X.w X.K ra HK F W ⟨x, (fs.zip ds).reverse⟩ e1 := h0
      refine h1 _ (some dx) σ F1 _ s1 (R1.grow hdx' _) ⟨rfl, .inr ⟨fun z => ?_, dx, vs.reverse, rfl, ?_, ?_, R1.fh.free hdx', fun z => R1.ra_some (by rw [← z]; exact hdx')⟩⟩
      · have := congrArg List.length z
        simp at this
        rcases this with z | z
        · exact hfs z
        · have : fs.length = 0 := by rw [← lds, z]; rfl
          exact hfs (List.length_eq_zero_iff.mp this)
      · rw [upd_same]
        have e3 : ((fs.zip ds).reverse.map (·.1)) = fs.reverse := by rw [List.map_reverse, zip_fst (by omega)]
        show some (HO.xd _) = some (HO.xd (((fs.zip ds).reverse.map (·.1)).zip vs.reverse))
        rw [e3, zip_rev l1]
      · show RepA X.w X.K ra F1 vs.reverse ((fs.zip ds).reverse.map (·.2))
        rw [List.map_reverse, zip_snd (by omega)]
        exact RepA.reverse r1
/-! ### isinstance of a caught error -/
def rIsX (K : PySem.W.Frag) (D a : Addr) (d : Option Addr) : List V → Hp → VK → Prop := fun xs H Q => ∃ (c : V) (cv : Value) (b : Bool), xs = [.ref a, c] ∧ (∀ u, RelV c u → u = cv) ∧ PySem.W.kitOne K (.ref D) cv = some b ∧ (d = none ∨ ∃ dd fs, d = some dd ∧ H dd = some (.xd fs)) ∧ Q (.bl b) H
theorem call_isX {X : Cx} {a D : Addr} {d : Option Addr} {oe : Obj} {pn : List (Addr × Obj)} (C : ExcC X.K D) (hz : Zc (.ref D) d oe) (hf : ∃ vs, oe.data = .fields vs) : CallR (X.suite a ((a, oe) :: pn)) (.builtin "isinstance") (rIsX X.K D a d) := by
  intro pins s σ H xs us Q I r h
  obtain ⟨c, cv, b, rfl, hcv, e, hd, q⟩ := h
  cases r with
  | cons rx rr =>
    cases rr with
    | cons rt rr =>
      cases rr
      cases rx
      have ec := hcv _ rt
      subst ec
      obtain ⟨hget, _⟩ := I.pin (a, oe) (List.mem_append.mpr (.inl List.mem_cons_self))
      obtain ⟨vs, hv⟩ := hf
      have nc : PySem.W.notCls oe := by
        unfold PySem.W.notCls
        rw [hv] <;> rfl
      have hcl : (PySem.W.clsIn X.K D).isSome = true := by
        obtain ⟨cd, hc, _⟩ := PySem.W.any_some C.hd
        rw [hc]
        rfl
      have J : ∃ od, PySem.W.InstAt s.heap a oe D od := by
        rcases hd with rfl | ⟨dd, fs, rfl, hH⟩
        · exact ⟨none, hget, hz.1, nc, by rw [hz.2]; trivial⟩
        · have hx : ObjOk X.prog X.w H s.heap dd (.xd fs) := I.hok dd _ hH
          obtain ⟨mA, hns, _⟩ := hx
          obtain ⟨od, ho, _⟩ := lookIn_ns hns
          exact ⟨some od, hget, hz.1, nc, by rw [hz.2]; exact ho⟩
      obtain ⟨od, J⟩ := J
      exact PySem.W.kia_one (PySem.W.kitx_exc hcl C.hg C.hk C.hs C.ha C.hn C.ht C.hm) I.kIn J e (fun z => nomatch z) fun tk => ⟨.bl b, H, I.kept (t' := tk) fun _ _ z => z, rfl, q⟩
/-! ### what a suite makes of the error -/
/-- an expression in a suite for errors of the class c, n (slot i) being the error -/
structure HdV (X : Cx) (i : Nat) (c : Str) (A : Expr) (mA : Exn → M D) : Prop where
  run : ∀ (x : Exn) (a : Addr) (oe : Obj) (d : Option Addr) (pn : List (Addr × Obj)), x.cls = c → Zc (.ref (He.ga X.K c)) d oe → (∃ vs, oe.data = .fields vs) → ∃ te, PE (X.suite a ((a, oe) :: pn)) A te ∧
    ∀ (ra : Addr) (HK : Kp) (F : Hp) (e : Env) (σ : L2.St) (H : Hp) (Q : VK), Rel X.w X.K ra HK F e σ H → σ[i]? = some (some (.ref a)) → ExIs X.w X.K ra F H x (.ref (He.ga X.K c)) d → ((mA x) e).wp (okG TV X.w X.K ra HK F σ Q) (exW X.w X.K ra HK F WN) → te σ H Q
theorem lookup_zip {w : World} {K : PySem.W.Frag} {ra : Addr} {F : Hp} {f : Str} {dv : D} : ∀ {l : List (Str × D)} {vs : List V}, RepA w K ra F vs (l.map (·.2)) → l.lookup f = some dv → ∃ v, ((l.map (·.1)).zip vs).lookup f = some v ∧ Rep w K ra F v dv
  | [], _, _, h => by cases h
  | (g, d) :: l, vs, r, h => by
    cases r with
    | @cons v _ vs _ r1 r2 =>
      rw [List.lookup_cons] at h
      rw [List.map_cons, List.zip_cons_cons, List.lookup_cons]
      cases e : f == g with
      | true =>
        rw [e] at h
        cases h
        exact ⟨v, rfl, r1⟩
      | false =>
        rw [e] at h
        exact lookup_zip r2 h
/-- the error's field -/
def fldX (f : Str) (x : Exn) : Option D := x.fs.lookup f
def XfC.of {K : PySem.W.Frag} {C : Addr} (h : ExcC K C) : XfC K C := ⟨h.hg, h.hk, h.hs, h.hd⟩
section
variable {X : Cx} {i : Nat} {c n f1 f2 : Str} {p1 p2 p3 p4 pos : Pos} {z : Str} {j0 : Nat}
/-- [text, n.f, n.g] -/
def errL2 (z f1 f2 : Str) : Exn → M D := fun x => match fldX f1 x, fldX f2 x with
  | some d, some d' => pureM (.lst [.str z, d, d'])
  | _, _ => errM
theorem hdv_l2 (E : ExcC X.K (He.ga X.K c)) (hno : PySem.W.findIn X.K (.ref (He.ga X.K c)) f1 = some none) (hno2 : PySem.W.findIn X.K (.ref (He.ga X.K c)) f2 = some none) (hi : X.N[i]? = some n) (hv : Vis X.env.scope n) (hdn : (n == ("__debug__" : Str)) = false) (hcn : (n == ("__classdict__" : Str)) = false)
    (hb : attributeBase (.Name n p1) f1 X.env (eval (.Name n p1) X.env) = eval (.Name n p1) X.env) (hb2 : attributeBase (.Name n p4) f2 X.env (eval (.Name n p4) X.env) = eval (.Name n p4) X.env) {p5 : Pos}
    (hs0 : starEach [.Constant (.str z) j0 p3, .Attribute (.Name n p1) f1 p2, .Attribute (.Name n p4) f2 p5] X.env = (false, eval (.Constant (.str z) j0 p3) X.env) :: starEach [.Attribute (.Name n p1) f1 p2, .Attribute (.Name n p4) f2 p5] X.env)
    (hs1 : starEach [.Attribute (.Name n p1) f1 p2, .Attribute (.Name n p4) f2 p5] X.env = (false, eval (.Attribute (.Name n p1) f1 p2) X.env) :: starEach [.Attribute (.Name n p4) f2 p5] X.env) (hs2 : starEach [.Attribute (.Name n p4) f2 p5] X.env = (false, eval (.Attribute (.Name n p4) f2 p5) X.env) :: starEach [] X.env) :
    HdV X i c (.List [.Constant (.str z) j0 p3, .Attribute (.Name n p1) f1 p2, .Attribute (.Name n p4) f2 p5] pos) (errL2 z f1 f2) := by
  refine ⟨fun x a oe d pn hx hz hf => ?_⟩
  refine ⟨_, pe_lst (pa_cons (pe_str) (pa_cons (pe_xf (C := He.ga X.K c) (XfC.of E) hno hz hf (pe_var (X := X.suite a ((a, oe) :: pn)) (i := i) hi hv hdn hcn) hb) (pa_cons (pe_xf (C := He.ga X.K c) (XfC.of E) hno2 hz hf (pe_var (X := X.suite a ((a, oe) :: pn)) (i := i) hi hv hdn hcn) hb2) pa_nil hs2) hs1) hs0), fun ra HK F e σ H Q R hsl hex hw => ?_⟩
  unfold errL2 at hw
  cases el : fldX f1 x with
  | none =>
    rw [el] at hw
    exact hw.elim
  | some dv =>
    cases el2 : fldX f2 x with
    | none =>
      rw [el, el2] at hw
      exact hw.elim
    | some dv2 =>
      rw [el, el2] at hw
      obtain ⟨_, hfs⟩ := hex
      rcases hfs with ⟨h0, _⟩ | ⟨_, dd, vs, rfl, hH, hr, fdd, ndd⟩
      · unfold fldX at el
        rw [h0] at el
        cases el
      · obtain ⟨v, hl, rv⟩ := lookup_zip hr el
        obtain ⟨v2, hl2, rv2⟩ := lookup_zip hr el2
        refine ⟨.ref a, hsl, rfl, rfl, dd, _, v, rfl, hH, hl, .ref a, hsl, rfl, rfl, dd, _, v2, rfl, hH, hl2, (show 3 ≤ sizeLine by decide), fun p hp => ?_⟩
        obtain ⟨R2, s2⟩ := R.alloc hp (.lst [.str z, v, v2])
        exact hw _ _ _ s2 R2 (.lst upd_same (.cons (.str z) (.cons (Rep.mono s2 rv) (.cons (Rep.mono s2 rv2) .nil))))
end
/-! ### try with clauses for errors with fields -/
def tryHX (cs : List Str) (x : Exn) (e : Env) : List (Str × Nat × (Exn → M Fl)) → Res Fl
  | [] => .exc x e
  | (c, i, m) :: r => if (cs.contains x.cls && !(c == "CutError")) = true then (if exSub x.cls c = true then hdM i (m x) e else tryHX cs x e r) else .err
def tryMX (cs : List Str) (b : M Fl) (hs : List (Str × Nat × (Exn → M Fl))) : M Fl := fun e => match b e with
  | .exc x e' => tryHX cs x e' hs
  | r => r
def clX (w : World) (K : PySem.W.Frag) (c : Str) (i : Nat) (m : Exn → M Fl) : Addr → Value → Option Addr → TS := fun a cl d D' σ H => ∃ x : Exn, x.cls = c ∧ cl = .ref (He.ga K c) ∧ σ[i]? = some (some (.ref a)) ∧ ∃ ra HK F e, Rel w K ra HK F e σ H ∧ ExIs w K ra F H x cl d ∧ ((m x) e).wp (okS w K ra HK F D') (exW w K ra HK F WN)
def clLX (w : World) (K : PySem.W.Frag) (hs : List (Str × Nat × (Exn → M Fl))) : List Clause := hs.map fun h => (.ref (He.ga K h.1), h.2.1, clX w K h.1 h.2.1 h.2.2)
theorem as_wishX {w : World} {K : PySem.W.Frag} {mg : Str → Option Value} {cs : List Str} (T : ExTab K mg cs) {ra : Addr} {HK : Kp} {F : Hp} {D' : Ends} {W : WX} {x : Exn} {e1 : Env} {cl : Value} {d : Option Addr} {σ1 : L2.St} {F1 H1 : Hp}
    (s1 : Same F F1) (R1 : Rel w K ra HK F1 e1 σ1 H1) (hx : ExIs w K ra F1 H1 x cl d) : ∀ (hs : List (Str × Nat × (Exn → M Fl))), (∀ h ∈ hs, h.1 ∈ cs) → Res.wp (tryHX cs x e1 hs) (okS w K ra HK F D') (exW w K ra HK F W) →
      asN K W D' (clLX w K hs) cl d σ1 H1
  | [], _, h' => by
    unfold tryHX at h'
    exact h' cl d σ1 F1 H1 s1 R1 hx
  | (c, i, m) :: hs, hm, h' => by
    have hcc : c ∈ cs := hm (c, i, m) List.mem_cons_self
    obtain ⟨ecl, hfs⟩ := id hx
    unfold tryHX at h'
    by_cases hcx : (cs.contains x.cls && !(c == "CutError")) = true
    · rw [if_pos hcx] at h'
      simp only [Bool.and_eq_true, Bool.not_eq_true'] at hcx
      have hxc : x.cls ∈ cs := by simpa using hcx.1
      refine ⟨exSub x.cls c, by rw [ecl]; exact T.m _ hxc _ hcc, fun hsub a ha => ?_, fun hsub => ?_⟩
      · rw [if_pos hsub] at h'
        have exc : x.cls = c := by
          unfold exSub at hsub
          rw [hcx.2, Bool.or_false] at hsub
          simpa using hsub
        unfold hdM at h'
        by_cases hl : i < e1.sl.length
        · rw [if_pos hl] at h'
          have hl2 : i < σ1.length := by rw [← R1.len]; exact hl
          have R2 := R1.setNo i (some (V.ref a))
          cases em : m x { e1 with sl := e1.sl.set i .no } with
          | err =>
            rw [em] at h'
            exact h'.elim
          | exc z e2 =>
            rw [em] at h'
            exact h'.elim
          | ok fl e2 =>
            rw [em] at h'
            refine ⟨x, exc, by rw [ecl, exc], List.getElem?_set_self hl2, ra, HK, F1, _, R2, hx, ?_⟩
            show Res.wp (m x { e1 with sl := e1.sl.set i .no }) _ _
            rw [em]
            intro σ3 F3 H3 s3 R3
            have R4 := R3.setNo i none
            have h5 := h' (σ3.set i none) F3 H3 (s1.trans s3) R4
            cases fl with
            | nx => exact h5
            | bk => exact h5
            | ct => exact h5
            | rt d => exact h5
        · rw [if_neg hl] at h'
          exact h'.elim
      · rw [if_neg (by rw [hsub]; exact Bool.false_ne_true)] at h'
        exact as_wishX T s1 R1 hx hs (fun h hh => hm h (List.mem_cons_of_mem _ hh)) h'
    · rw [if_neg hcx] at h'
      exact h'.elim
/-- y = A if isinstance(n, CutError) else B, in the suite of such an error -/
theorem suite_isX {X : Cx} {cs : List Str} {i j : Nat} {a : Addr} {oe : Obj} {c : Str} {d : Option Addr} {pn : List (Addr × Obj)} {y n : Str} {py p p2 p3 p4 p5 pos : Pos} {A B : Expr} {mA : Exn → M D} (T : ExTab X.K X.mg cs) (hcs : c ∈ cs) (hz : Zc (.ref (He.ga X.K c)) d oe) (hf : ∃ vs, oe.data = .fields vs)
    (x : Exn) (hx : x.cls = c) (hA : HdV X i c A mA) (hB : PM (X.suite a ((a, oe) :: pn)) WN B errM) (hm : X.mg "isinstance" = none) (hN : X.N.Nodup) (hi : X.N[i]? = some n) (hj : X.N[j]? = some y) (hvi : Vis X.env.scope n)
    (hdn : (n == ("__debug__" : Str)) = false) (hcn : (n == ("__classdict__" : Str)) = false)
    (hyl : Loc X.env.scope y) (hgi : Gl X "isinstance") (hgc : Gl X "CutError") (hse : starEach [.Name n p2, .Name "CutError" p3] X.env = (false, eval (.Name n p2) X.env) :: starEach [.Name "CutError" p3] X.env)
    (hsw : swapsWith (.IfExp (.Call (.Name "isinstance" p) [.Name n p2, .Name "CutError" p3] [] p4) A B p5) (some (.Name y py)) pos.line X.env = pure false) (hfn : X.fn y = true ∨ X.env.scope.names.lookup y = some .local) :
    PSs (X.suite a ((a, oe) :: pn)) [.Assign [.Name y py] (.IfExp (.Call (.Name "isinstance" p) [.Name n p2, .Name "CutError" p3] [] p4) A B p5) pos] (fun D' σ H => σ[i]? = some (some (.ref a)) ∧ ∃ ra HK F e, Rel X.w X.K ra HK F e σ H ∧ ExIs X.w X.K ra F H x (.ref (He.ga X.K c)) d ∧ ((asgM j (mA x)) e).wp (okS X.w X.K ra HK F D') (exW X.w X.K ra HK F WN)) := by
  obtain ⟨te, hte, hread⟩ := hA.run x a oe d pn hx hz hf
  have pc : PE (X.suite a ((a, oe) :: pn)) (.Call (.Name "isinstance" p) [.Name n p2, .Name "CutError" p3] [] p4) _ := pe_callB (call_isX (T.i c hcs) hz hf) hgi hm (by decide +kernel) (pa_cons (pe_var (i := i) hi hvi hdn hcn) (pa_cons (pe_glob (v := .ref (He.ga X.K "CutError")) hgc (T.g _ T.cut) rfl (by decide)) pa_nil rfl) hse) (by decide) (by decide) hse rfl
  have ps := pss_one (ps_set (X := X.suite a ((a, oe) :: pn)) (pos := pos) (pos' := py) hN hj hyl (pe_ifExp (X := X.suite a ((a, oe) :: pn)) (pos := p5) (pt_val pc) hte hB) hsw hfn)
  refine PSs.weaken ps ?_
  rintro D' σ H ⟨e1, ra, HK, F, e, R, hex, h⟩
  refine ⟨.ref a, e1, ?_⟩
  refine ⟨.ref (He.ga X.K "CutError"), .ref (He.ga X.K "CutError"), true, rfl, fun u r => r, T.k c hcs, ?_, ?_⟩
  · obtain ⟨_, hfs⟩ := hex
    rcases hfs with ⟨_, hd⟩ | ⟨_, dd, vs, hd, hH, _⟩
    · exact .inl hd
    · exact .inr ⟨dd, _, hd, hH⟩
  · refine ⟨true, rfl, iteT ?_⟩
    unfold asgM at h
    have h1 := wp_bind.mp h
    refine hread ra HK F e σ H _ R e1 hex ?_
    refine wp_mono h1 (fun dv e' q v F' H' s R' r => ?_) fun _ _ q => q
    obtain ⟨h2, q2⟩ := wp_setM q
    exact q2 _ F' H' s (R'.setVal h2 r)
section
variable {X : Cx} {W : WX} {cs : List Str}
inductive HdX (X : Cx) (cs : List Str) : List ExceptHandler → List (Str × Nat × (Exn → M Fl)) → Prop
  | nil : HdX X cs [] []
  | cons {hds : List ExceptHandler} {hs : List (Str × Nat × (Exn → M Fl))} {i j : Nat} {c y n : Str} {py np p p2 p3 p4 p5 pos1 pos' : Pos} {A B : Expr} {mA : Exn → M D} (hcc : c ∈ cs)
    (hA : HdV X i c A mA) (hB : ∀ (a : Addr) (oe : Obj) (pn : List (Addr × Obj)), PM (X.suite a ((a, oe) :: pn)) WN B errM) (hm : X.mg "isinstance" = none) (r : HdX X cs hds hs) (hi : X.N[i]? = some n := by rfl) (hj : X.N[j]? = some y := by rfl) (hij : i ≠ j := by decide)
    (hln : X.env.kindOf n = some .local := by rfl) (hvi : Vis X.env.scope n := by first | exact Or.inl rfl | exact Or.inr (Or.inl rfl) | exact Or.inr (Or.inr rfl))
    (hdn : (n == ("__debug__" : Str)) = false := by decide) (hcn : (n == ("__classdict__" : Str)) = false := by decide) (hdc : (c == ("__debug__" : Str)) = false := by decide) (hgx : Gl X c := by rfl)
    (hyl : Loc X.env.scope y := by first | exact Or.inl rfl | exact Or.inr rfl) (hgi : Gl X "isinstance" := by rfl) (hgc : Gl X "CutError" := by rfl) (hse : starEach [.Name n p2, .Name "CutError" p3] X.env = (false, eval (.Name n p2) X.env) :: starEach [.Name "CutError" p3] X.env := by rfl)
    (hsw : swapsWith (.IfExp (.Call (.Name "isinstance" p) [.Name n p2, .Name "CutError" p3] [] p4) A B p5) (some (.Name y py)) pos1.line X.env = pure false := by rfl) (hfn : X.fn y = true ∨ X.env.scope.names.lookup y = some .local := by first | exact .inl rfl | exact .inr rfl | assumption) :
    HdX X cs (.ExceptHandler (some (.Name c np)) (some n) [.Assign [.Name y py] (.IfExp (.Call (.Name "isinstance" p) [.Name n p2, .Name "CutError" p3] [] p4) A B p5) pos1] pos' :: hds) ((c, i, fun x => asgM j (mA x)) :: hs)
theorem HdX.mem {hds : List ExceptHandler} {hs : List (Str × Nat × (Exn → M Fl))} (h : HdX X cs hds hs) : ∀ k ∈ hs, k.1 ∈ cs := by
  induction h with
  | nil => exact fun _ z => by cases z
  | cons hcc hA hB hm r hi hj hij hln hvi hdn hcn hdc hgx hyl hgi hgc hse hsw hfn ih =>
    intro k hk
    rcases List.mem_cons.mp hk with z | z
    · rw [z]
      exact hcc
    · exact ih k z
theorem HdX.ok {hds : List ExceptHandler} {hs : List (Str × Nat × (Exn → M Fl))} (T : ExTab X.K X.mg cs) (hN : X.N.Nodup) (h : HdX X cs hds hs) : AsOk X hds (clLX X.w X.K hs) := by
  induction h with
  | nil => exact .non
  | cons hcc hA hB hm r hi hj hij hln hvi hdn hcn hdc hgx hyl hgi hgc hse hsw hfn ih =>
    refine .more ⟨hgx, hdc, .inl (T.g _ hcc)⟩ hi hln (fun a oe cl d pn hz hfd => ⟨fun pins s σ H D' I h => ?_⟩) ih
    obtain ⟨x, hx, rfl, e1, h⟩ := h
    exact (suite_isX T hcc hz hfd x hx hA (hB a oe pn) hm hN hi hj hvi hdn hcn hyl hgi hgc hse hsw hfn).run pins s σ H D' I ⟨e1, h⟩
theorem psm_tryX {body : List Stmt} {b : M Fl} {cl0 : ExceptHandler} {hds : List ExceptHandler} {hs : List (Str × Nat × (Exn → M Fl))} {pos : Pos} (T : ExTab X.K X.mg cs) (tk : Takes X W) (hst : X.stack = X.env :: X.outer) (hf : X.env.frame = some X.env.locals)
    (hb : ∀ (W' : WX) (pn : List (Addr × Obj)) (xe : Value → Shared → Prop), Takes (X.tr pn xe) W' → PassesOwn (model X.prog X.w) X.A X.env xe → PSsM (X.tr pn xe) W' body b) (hh : HdX X cs (cl0 :: hds) hs) (hN : X.N.Nodup) :
    PSM X W (.Try body (cl0 :: hds) [] [] pos) (tryMX cs b hs) := by
  refine PS.weaken (psN_try (Wo := W) (tb := fun W' => tS X.w X.K W' b) hst hf hN tk hb (hh.ok T hN)) ?_
  rintro D' σ H ⟨ra, HK, F, e, R, h⟩
  unfold tryMX at h
  refine ⟨ra, HK, F, e, R, ?_⟩
  cases eb : b e with
  | err =>
    rw [eb] at h
    exact h
  | ok fl e1 =>
    rw [eb] at h
    exact h
  | exc x e1 =>
    rw [eb] at h
    intro cl d σ1 F1 H1 s1 R1 hx
    exact as_wishX T s1 R1 hx hs hh.mem h
end
end Mi

set_option Elab.async false
set_option linter.all false
set_option maxRecDepth 100000
set_option maxHeartbeats 4000000
/-! Mirrors, part M: sorted(xs), xs a list of words of one length. -/
namespace Mi
open PySem PySem.Spec PyProof.Rows L2
def wI (w : List Int) : D := .tup (w.map D.int)
def wordsOf : List D → Option (List (List Int))
  | [] => some []
  | .tup xs :: r => match intsOf xs, wordsOf r with
    | some w, some ws => some (w :: ws)
    | _, _ => none
  | _ => none
section
variable {w : World} {K : PySem.W.Frag} {ra : Addr} {F H : Hp}
theorem RepA.words : ∀ {vs : List V} {ws : List (List Int)}, RepA w K ra F vs (ws.map wI) → ∀ x ∈ vs, ∃ ns ∈ ws, TupI K F x ns
  | [], _, _, x, hx => by cases hx
  | v :: vs, [], h, _, _ => by cases h
  | v :: vs, u :: ws, h, x, hx => by
    cases h with
    | cons h1 h2 =>
      rcases List.mem_cons.mp hx with rfl | hx
      · refine ⟨u, List.mem_cons_self, ?_⟩
        cases h1 with
        | @tup a us ds hq hr =>
          rw [RepA.ints hr] at hq
          exact ⟨a, rfl, hq⟩
      · obtain ⟨ns, m, t⟩ := RepA.words h2 x hx
        exact ⟨ns, List.mem_cons_of_mem _ m, t⟩
end
theorem RepA.pair {K : PySem.W.Frag} {w : World} {ra : Addr} {F H : Hp} (fh : Same F H) {ys : List V} {us : List (List Int)} (r : RepA w K ra F ys (us.map wI)) (p : ys.Pairwise (fun x y => ∀ n m, TupI K H x n → TupI K H y m → TS.code 1000 n ≤ TS.code 1000 m)) : us.Pairwise fun a b => TS.code 1000 a ≤ TS.code 1000 b := by
  induction ys generalizing us with
  | nil =>
    cases us with
    | nil => exact .nil
    | cons u us => cases r
  | cons y ys ih =>
    cases us with
    | nil => cases r
    | cons u us =>
      cases r with
      | cons h1 h2 =>
        rw [List.pairwise_cons] at p ⊢
        have t1 : TupI K H y u := by
          cases h1 with
          | @tup a us' ds hq hr =>
            rw [RepA.ints hr] at hq
            exact ⟨a, rfl, Same.seqT fh hq⟩
        refine ⟨fun b hb => ?_, ih h2 p.2⟩
        have key : ∀ (vs : List V) (bs : List (List Int)), RepA w K ra F vs (bs.map wI) → ∀ b ∈ bs, ∃ v ∈ vs, TupI K H v b := by
          intro vs bs
          induction bs generalizing vs with
          | nil => exact fun _ b hb => nomatch hb
          | cons c bs ih2 =>
            intro r b hb
            cases r with
            | cons g1 g2 =>
              rcases List.mem_cons.mp hb with rfl | hb
              · cases g1 with
                | @tup a us' ds hq hr =>
                  rw [RepA.ints hr] at hq
                  exact ⟨_, List.mem_cons_self, a, rfl, Same.seqT fh hq⟩
              · obtain ⟨v, hv, t⟩ := ih2 _ g2 b hb
                exact ⟨v, List.mem_cons_of_mem _ hv, t⟩
        obtain ⟨v, hv, t2⟩ := key _ _ h2 b hb
        exact p.1 v hv u b t1 t2
section
variable {X : Cx} {W : WX} {a : Expr} {ma : M Ref} {pos : Pos}
end
end Mi

set_option Elab.async false
set_option linter.all false
set_option maxRecDepth 100000
set_option maxHeartbeats 4000000
/-! Mirrors, part M2: [y for a in xs for b in ys]. -/
namespace Mi
open PySem PySem.Spec PyProof.Rows L2
section
variable {X : Cx} {W : WX} {elt tg iter tg1 iter1 : Expr} {scope : Scope} {pos : Pos} {mi mi1 : M (List D)} {g g1 : D → M Unit} {el : M D} {is is1 : List Nat}
end
end Mi

set_option Elab.async false
set_option linter.all false
set_option maxRecDepth 100000
set_option maxHeartbeats 4000000
/-! Mirrors, part M3: isinstance(x, (T, U)); sorted(set(t)), t a tuple of numbers. -/
namespace Mi
open PySem PySem.Spec PyProof.Rows L2
section
variable {X : Cx} {W : WX} {a : Expr} {ma : M Ref} {pos : Pos}
end
/-! ### sorted(set(t)) -/
section
variable {X : Cx}
end
section
variable {X : Cx} {W : WX} {a : Expr} {ma : M Ref} {pos : Pos}
end
end Mi

set_option Elab.async false
set_option linter.all false
set_option maxRecDepth 100000
set_option maxHeartbeats 4000000
/-! Mirrors, part M4: dict comprehensions, the keys nested or numbers. -/
namespace Mi
open PySem PySem.Spec PyProof.Rows L2
section
variable {X : Cx}
end
/-! ### the mirror -/
section
variable {X : Cx} {W : WX} {kx vx tg iter : Expr} {ifs : List Expr} {scope : Scope} {pos : Pos} {mi : M (List D)} {g : D → M Unit} {t : M Bool} {mk mv : M D} {is : List Nat}
end
end Mi

set_option Elab.async false
set_option linter.all false
set_option maxRecDepth 100000
set_option maxHeartbeats 4000000
/-! Mirrors, part M5: dicts of one's own lists: d[k] = [], d[k].append(x), k in d; d[k] -= n. -/
namespace Mi
open PySem PySem.Spec PyProof.Rows L2
section
variable {w : World} {K : PySem.W.Frag} {ra : Addr} {HK : Kp} {F F' H H' : Hp} {e : Env} {σ : L2.St}
theorem RepB.ref {es : List (NestedKey × V × V)} {l : List (D × List D)} (r : RepB w K ra F H es l) : ∀ x ∈ es, ∃ b vs, x.2.2 = .ref b ∧ H b = some (.lst vs) := by
  induction r with
  | nil => exact fun x h => nomatch h
  | cons hk r hb ra' _ ih =>
    intro x h
    rcases List.mem_cons.mp h with rfl | h
    · exact ⟨_, _, rfl, hb⟩
    · exact ih x h
theorem RepB.snoc {es : List (NestedKey × V × V)} {l : List (D × List D)} {dk : D} {ds : List D} {k : NestedKey} {kv : V} {b : Addr} {vs : List V} (r : RepB w K ra F H es l) (h : dk.hk = some k) (h1 : Rep w K ra F kv dk) (h2 : H b = some (.lst vs)) (h3 : RepA w K ra F vs ds) : RepB w K ra F H (es ++ [(k, kv, .ref b)]) (l ++ [(dk, ds)]) := by
  induction r with
  | nil => exact .cons h h1 h2 h3 .nil
  | cons a b c d _ ih => exact .cons a b c d ih
def bget (l : List (D × List D)) (dk : D) : Option (List D) := (l.find? fun p => decide (p.1.hk = dk.hk)).map (·.2)
theorem RepB.find {es : List (NestedKey × V × V)} {l : List (D × List D)} (r : RepB w K ra F H es l) {dk : D} {k : NestedKey} (ek : dk.hk = some k) {ds : List D} (hg : bget l dk = some ds) : ∃ b vs, eget es k = some (.ref b) ∧ H b = some (.lst vs) ∧ RepA w K ra F vs ds ∧ ∃ x ∈ es, x.2.2 = .ref b := by
  induction r with
  | nil => cases hg
  | @cons k' kv b vs dk' ds' es l hk r hb ra' rr ih =>
    unfold bget at hg
    rw [List.find?_cons] at hg
    rw [eget_cons]
    by_cases c : k' = k
    · have c' : dk'.hk = dk.hk := by rw [hk, ek, c]
      rw [decide_eq_true c'] at hg
      cases hg
      rw [if_pos c]
      exact ⟨b, vs, rfl, hb, ra', _, List.mem_cons_self, rfl⟩
    · have c' : ¬ dk'.hk = dk.hk := fun z => c (by rw [hk, ek] at z; exact Option.some.inj z)
      rw [decide_eq_false c'] at hg
      rw [if_neg c]
      obtain ⟨b2, vs2, e1, e2, e3, x, hx, ex⟩ := ih hg
      exact ⟨b2, vs2, e1, e2, e3, x, List.mem_cons_of_mem _ hx, ex⟩
end
/-! ### d[k] = [] -/
/-! ### d[k] of a dict of lists, the very list -/
section
variable {X : Cx}
end
/-! ### d[k].append(x) -/
/-! ### k in d -/
section
variable {X : Cx} {W : WX} {a : Expr} {ma : M Ref} {pos p : Pos} {x : Str}
end
/-! ### d[k] += n, d[k] -= n -/
section
variable {X : Cx} {W : WX}
end
end Mi

set_option Elab.async false
set_option linter.all false
set_option maxRecDepth 100000
set_option maxHeartbeats 4000000
/-! Mirrors, part M6: {k: [] for ..}. -/
namespace Mi
open PySem PySem.Spec PyProof.Rows L2
section
variable {w : World} {K : PySem.W.Frag} {ra : Addr} {HK HK' : Kp} {P P' F F' H H' : Hp} {e e' : Env} {σ : L2.St}
theorem SlotOk.kp {ov : Option (Option V)} {s : Slot} (h : SlotOk w K ra HK F H ov s) (k : ∀ a, s.isC = true → ov = some (some (.ref a)) → ∀ p, Foot H s a p → HK'.h p = none) (hm : HK'.me = HK.me) : SlotOk w K ra HK' F H ov s := by
  cases s with
  | no => trivial
  | pin =>
    show ov = some (some HK'.me)
    rw [hm]
    exact h
  | val d => exact h
  | own o =>
    obtain ⟨a, e1, r, fa, ka, na⟩ := h
    exact ⟨a, e1, r, fa, k a rfl e1 a (.inl rfl), na⟩
  | box l =>
    obtain ⟨a, e1, es, at_, rb, nd, f⟩ := h
    refine ⟨a, e1, es, at_, rb, nd, fun p hp => ?_⟩
    obtain ⟨f1, f2, f3, f4⟩ := f p hp
    exact ⟨f1, k a rfl e1 p (hp.imp id fun z => ⟨rfl, z⟩), f3, f4⟩
end
section
variable {X : Cx} {W : WX} {kx tg iter : Expr} {scope : Scope} {pos lpos : Pos} {mi : M (List D)} {g : D → M Unit} {mk : M D} {is : List Nat}
end
end Mi

set_option Elab.async false
set_option linter.all false
set_option maxRecDepth 100000
set_option maxHeartbeats 4000000
/-! Mirrors, part M7: min(xs) of words; d == {} and d != {}. -/
namespace Mi
open PySem PySem.Spec PyProof.Rows L2
open PySem.W (dataLt minD alike alikeAll min_list_data reads_keeps keyToks)
open PySem.SeqAt (readOf_eq)
/-! ### a dict against an empty one -/
section
variable {prog : Program} {w : World} {A : Around} {E : Value → Shared → Prop} {s : Shared}
end
section
variable {X : Cx} {W : WX} {a b : Expr} {ma mb : M Ref} {pos : Pos}
end
/-! ### min(xs) of words -/
section
variable {X : Cx} {W : WX} {a b : Expr} {ma mb : M Ref} {pos : Pos}
end
end Mi

set_option Elab.async false
set_option linter.all false
set_option maxRecDepth 100000
set_option maxHeartbeats 4000000
/-! Mirrors, part M8: list(d). -/
namespace Mi
open PySem PySem.Spec PyProof.Rows L2
section
variable {X : Cx} {W : WX} {a : Expr} {ma : M Ref} {pos : Pos}
end
end Mi

set_option Elab.async false
set_option linter.all false
set_option maxRecDepth 100000
set_option maxHeartbeats 4000000
/-! Mirrors, part M9: t[::-1] of a tuple. -/
namespace HT
open PySem PySem.Spec PyProof.Rows
section
variable {prog : Program} {w : World} {A : Around} {E : Value → Shared → Prop} {s : Shared}
end
end HT
namespace Mi
open PySem PySem.Spec PyProof.Rows L2
section
variable {X : Cx} {W : WX} {e stp : Expr} {te : TE} {ts : L2.TO} {pos p2 : Pos} {ma : M Ref} {ms : M (Option Int)}
theorem RepA.snoc {w : World} {K : PySem.W.Frag} {ra : Addr} {F : Hp} : ∀ {vs : List V} {ds : List D} {v : V} {d : D}, RepA w K ra F vs ds → Rep w K ra F v d → RepA w K ra F (vs ++ [v]) (ds ++ [d])
  | _, _, _, _, .nil, h => .cons h .nil
  | _, _, _, _, .cons h1 r, h => .cons h1 (RepA.snoc r h)
/-! a op b op' c, as a test -/
end
end Mi

set_option Elab.async false
set_option linter.all false
set_option maxRecDepth 100000
set_option maxHeartbeats 4000000
/-! Mirrors, part M10: list(d.values()). -/
namespace Mi
open PySem PySem.Spec PyProof.Rows L2
section
variable {X : Cx} {W : WX} {a l : Expr} {te : TE} {ma : M Ref} {m : M D} {pos apos cpos : Pos}
end
end Mi

set_option Elab.async false
set_option linter.all false
set_option maxRecDepth 100000
set_option maxHeartbeats 4000000
/-! Mirrors, part M11: tuple(range(a, b)). -/
namespace Mi
open PySem PySem.Spec PyProof.Rows L2
def tupRgM (ma mb : M D) : M D := bindM ma fun x => bindM mb fun y => liftO ((rg2 x y).map D.tup)
section
variable {X : Cx} {W : WX} {a b : Expr} {pos : Pos}
end
@[simp ↓] theorem tupRgM_app (m n : M D) (e : Env) : tupRgM m n e = (m e).bind fun x => bindM n fun y => liftO ((rg2 x y).map D.tup) := rfl
end Mi

set_option Elab.async false
set_option linter.all false
set_option maxRecDepth 100000
set_option maxHeartbeats 4000000
/-! Mirrors, part M12: sorted(xs) of any alike data, sorted(d). -/
namespace Mi
open PySem PySem.Spec PyProof.Rows L2
open PySem.W (EachIs alike)
/-- the order of alike data -/
noncomputable def dLe (a b : D) : Bool := PySem.W.dataLe false D.pd a b
theorem RepA.zipped {w : World} {K : PySem.W.Frag} {ra : Addr} {F : Hp} : ∀ {vs : List V} {ds : List D}, RepA w K ra F vs ds → ∀ p ∈ vs.zip ds, Rep w K ra F p.1 p.2
  | _, _, .nil, p, h => by simp at h
  | _, _, .cons a r, p, h => by
    rw [List.zip_cons_cons] at h
    rcases List.mem_cons.mp h with rfl | h
    · exact a
    · exact r.zipped p h
theorem RepA.ofZip {w : World} {K : PySem.W.Frag} {ra : Addr} {F : Hp} : ∀ (l : List (V × D)), (∀ p ∈ l, Rep w K ra F p.1 p.2) → RepA w K ra F (l.map (·.1)) (l.map (·.2))
  | [], _ => .nil
  | p :: l, h => .cons (h p List.mem_cons_self) (RepA.ofZip l fun q hq => h q (List.mem_cons_of_mem _ hq))
theorem RepA.sorted {w : World} {K : PySem.W.Frag} {ra : Addr} {F : Hp} {vs : List V} {ds : List D} (h : RepA w K ra F vs ds) : RepA w K ra F (((vs.zip ds).mergeSort (fun x y => dLe x.2 y.2)).map (·.1)) (ds.mergeSort dLe) := by
  have e : ((vs.zip ds).mergeSort (fun x y => dLe x.2 y.2)).map (·.2) = ds.mergeSort dLe := by
    rw [List.map_mergeSort (r := fun x y : V × D => dLe x.2 y.2) (s := dLe) (f := fun x : V × D => x.2) (fun _ _ _ _ => rfl)]
    congr 1
    exact List.map_snd_zip (by rw [RepA.length h]; exact Nat.le_refl _)
  rw [← e]
  exact RepA.ofZip _ fun p hp => h.zipped p ((List.mergeSort_perm _ _).mem_iff.mp hp)
section
variable {X : Cx} {W : WX} {a : Expr} {ma : M Ref} {pos : Pos}
end
end Mi

set_option Elab.async false
set_option linter.all false
set_option maxRecDepth 100000
set_option maxHeartbeats 4000000
/-! Mirrors, part M13: properties. -/
namespace Mi
open PySem PySem.Spec PyProof.Rows L2
/-! ### the snapshot: a property's getter -/
def prA (K : PySem.W.Frag) (p : Str × Str) : Addr := He.ma K (He.ga K p.1) p.2
def gtA (K : PySem.W.Frag) (p : Str × Str) : Addr := match PySem.W.recIn K (prA K p) "property" with
  | some (.ref g :: _) => g
  | _ => 0
def gtW (K : PySem.W.Frag) (p : Str × Str) : He.FnW := match K.lookup (gtA K p) with
  | some ⟨_, _, .func fd, _⟩ => some (fd.name, fd.qualname, fd.params, fd.body, fd.scope, fd.globals, fd.closure, fd.builtins)
  | _ => none
structure GtD where
  at_ : Str × Str
  name : Str
  qual : Str
  params : Arguments
  body : List Stmt
  scope : Scope
def GtD.val (d : GtD) : He.FnW := some (d.name, d.qual, d.params, .stmts d.body, d.scope, mainGlobals, [], builtinsNs)
def propB (K : PySem.W.Frag) (p : Str × Str) : Bool := decide (PySem.W.findIn K (.ref (He.ga K p.1)) p.2 = some (some (.ref (prA K p)))) && (decide (PySem.W.specialIn K (.ref (prA K p)) "__get__" = some (some (.builtin "property.__get__"))) &&
  (decide (PySem.W.takesIn K (.ref (prA K p)) = some true) && (match PySem.W.recIn K (prA K p) "property" with
    | some (.ref _ :: _) => true
    | _ => false)))
theorem propB_ok {K : PySem.W.Frag} {p : Str × Str} (h : propB K p = true) : PropOf K (He.ga K p.1) p.2 (prA K p) (gtA K p) := by
  unfold propB at h
  simp only [Bool.and_eq_true, decide_eq_true_eq] at h
  obtain ⟨h1, h2, h3, h4⟩ := h
  refine ⟨h1, h2, h3, ?_⟩
  unfold gtA
  split at h4
  · rename_i g r e
    exact ⟨r, by rw [e]⟩
  · cases h4
def GtD.ok (K : PySem.W.Frag) (d : GtD) : Bool := propB K d.at_ && (PySem.W.keepIn K (.ref (gtA K d.at_)) && (match K.lookup (gtA K d.at_) with
  | some ⟨_, _, .func fd, _⟩ => PySem.W.codeIn K fd.code d.qual && (He.dflB K fd.defaults [] && He.kwdB K fd.kwdefaults [])
  | _ => false))
theorem GtD.funD {K : PySem.W.Frag} {d : GtD} (e : gtW K d.at_ = d.val) (c : d.ok K = true) : ∃ fd, FunD K d.name d.qual d.params d.body d.scope [] [] (gtA K d.at_) fd := by
  unfold GtD.ok at c
  obtain ⟨_, c⟩ := He.ba c
  obtain ⟨kp, c2⟩ := He.ba c
  unfold gtW at e
  generalize gtA K d.at_ = f at *
  cases q : K.lookup f with
  | none =>
    rw [q] at c2
    cases c2
  | some o =>
    obtain ⟨oc, od, dt, osl⟩ := o
    rw [q] at c2 e
    cases dt with
    | func fd =>
      obtain ⟨n1, n2, n3, n4, n5, n6, n7, n8, n9, n10, n11, n12, n13, n14, n15⟩ := fd
      have e2 : (some (n1, n2, n3, n4, n5, n6, n7, n15) : He.FnW) = some (d.name, d.qual, d.params, .stmts d.body, d.scope, mainGlobals, [], builtinsNs) := e
      simp only [Option.some.injEq, Prod.mk.injEq] at e2
      obtain ⟨h1, h2, h3, h4, h5, h6, h7, h8⟩ := e2
      subst h1 h2 h3 h4 h5 h6 h7 h8
      have c3 : (PySem.W.codeIn K n13 d.qual && (He.dflB K n8 [] && He.kwdB K n9 [])) = true := c2
      obtain ⟨k1, k2⟩ := He.ba c3
      obtain ⟨k3, k4⟩ := He.ba k2
      exact ⟨_, ⟨oc, od, n8, n9, n10, n11, n12, n13, n14, osl, rfl, q, k1, He.dflB_ok k3, He.kwdB_ok k4⟩, kp⟩
    | _ => cases c2
def SaysG (gs : List GtD) (K : PySem.W.Frag) : Prop := (gs.all (fun d => d.ok K), gs.map fun d => gtW K d.at_) = (true, gs.map GtD.val)
theorem SaysG.get {gs : List GtD} {K : PySem.W.Frag} (c : SaysG gs K) (i : Nat) {d : GtD} (h : gs[i]? = some d := by rfl) : PropOf K (He.ga K d.at_.1) d.at_.2 (prA K d.at_) (gtA K d.at_) ∧ ∃ fd, FunD K d.name d.qual d.params d.body d.scope [] [] (gtA K d.at_) fd := by
  have c1 : gs.all (fun d => d.ok K) = true := congrArg Prod.fst c
  have c2 : gs.map (fun d => gtW K d.at_) = gs.map GtD.val := congrArg Prod.snd c
  have m := List.mem_of_getElem? h
  have ok := List.all_eq_true.mp c1 d m
  refine ⟨propB_ok (He.ba (show (propB K d.at_ && _) = true from ok)).1, GtD.funD ?_ ok⟩
  have e := congrArg (fun l => l[i]?) c2
  simp only [List.getElem?_map, h, Option.map_some, Option.some.injEq] at e
  exact e
/-! ### a def by its place -/
section
variable {P : Program} {w : World} {K : PySem.W.Frag} {mg : Str → Option Value} {base : Heap} {x qual : Str} {params : Arguments} {body : List Stmt} {scope : Scope} {kws : List (Str × V)} {f : Addr} {fd : FuncData}
theorem fn_raw {N ps : List Str} {k n j : Nat} {b : M Fl} (FD : FunD K x qual params body scope [] kws f fd) (S : FnScope N ps scope) (hn : ps.length = n) (hj : N.length - n = j)
    (hbody : ∀ (cdv : Value) (A : Around) (outer : List PySem.Env) (s : Shared) (H : Hp) (E : XK), Room k (A.deeper (envOfC qual scope s.heap.objs.size f cdv)) → Takes (cxOf (L2.CX P w) P w K mg base N qual scope f cdv A outer s H E) (fun cls d _ H' => E cls d H') →
      PSsM (cxOf (L2.CX P w) P w K mg base N qual scope f cdv A outer s H E) (fun cls d _ H' => E cls d H') body b) : FnOk P w K mg base (L2.CX P w) (k + 1) f fd ps (spM w K n (fnM j b)) := by
  refine FD.ok S (fun vs H Q E h => ?_) (fun cdv A outer s H vs Q E hr h => ?_)
  · obtain ⟨ra, F, ds, row, _, _, _, rp, hl, _⟩ := h
    rw [rp.length, hl, hn]
  · have tk : Takes (cxOf (L2.CX P w) P w K mg base N qual scope f cdv A outer s H E) (fun cls d _ H' => E cls d H') := takes_of rfl rfl rfl rfl
    refine ⟨_, hbody cdv A outer s H E hr tk, ?_⟩
    obtain ⟨ra, F, ds, row, hf, fra, ro, rp, hl, h⟩ := h
    have R := rel_start (N := N) hf fra ro rp j (by rw [rp.length, hl]; exact hj)
    refine ⟨ra, _, F, _, R, ?_⟩
    unfold fnM at h
    show Res.wp _ _ _
    cases eb : b ⟨ds.map Slot.val ++ List.replicate j .no, row⟩ with
    | err =>
      rw [eb] at h
      exact h
    | exc y e' =>
      rw [eb] at h
      exact fun cls d σ' F' H' s' R' hx => h F' H' cls d (aft_of R' s') hx
    | ok fl e' =>
      rw [eb] at h
      intro σ' F' H' s' R'
      cases fl with
      | nx => exact h F' H' .non (aft_of R' s') .non
      | rt d => exact fun v rv => h F' H' v (aft_of R' s') rv
      | bk => exact h.elim
      | ct => exact h.elim
end
/-- a property of the rules' class -/
structure Gt (P : Program) (w : World) (K : PySem.W.Frag) (mg : Str → Option Value) (base : Heap) (f : Str) (k : Nat) (g : FnM) : Prop where
  ex : ∃ p a fd ps, PropOf K (He.ga K "Rule") f p a ∧ FnOk P w K mg base (L2.CX P w) k a fd ps (spM w K 1 g) ∧ Binds K fd ps []
/-- a call that may not raise -/
def callN (g : FnM) (ds : List D) : M D := fun e => match g ds e.row with
  | .ret d row' => .ok d { e with row := row' }
  | _ => .err
section
variable {X : Cx} {W : WX} {k k' : Nat} {g : FnM} {e : Expr} {f : Str} {pos : Pos} {m : M D}
end
end Mi

set_option Elab.async false
set_option linter.all false
set_option maxRecDepth 100000
set_option maxHeartbeats 4000000
/-! Mirrors, part M14: the rules' own ==, and != by it. -/
namespace Mi
open PySem PySem.Spec PyProof.Rows L2
/-! ### the snapshot -/
def eqB (K : PySem.W.Frag) : Bool := match K.lookup (He.ga K "Rule") with
  | some ⟨.type "type", _, .cls cd, sl⟩ => (match cd.mro, sl.toList with
    | [.ref C', .type t], [_, _, _, _, some (.builtin _), _] => C' == He.ga K "Rule" && (t == "object" && (!cd.hasDel && (PySem.W.nsOkIn K cd.ns && (decide (PySem.W.nsIn K cd.ns "__eq__" = some (some (.ref (He.ma K (He.ga K "Rule") "__eq__")))) && decide (PySem.W.nsIn K cd.ns "__ne__" = some none)))))
    | _, _ => false)
  | _ => false
def eqB2 (K : PySem.W.Frag) : Bool := eqB K && (decide (PySem.W.findIn K (.ref (He.ga K "Rule")) "__eq__" = some (some (.ref (He.ma K (He.ga K "Rule") "__eq__")))) && (PySem.W.isFn K (.ref (He.ma K (He.ga K "Rule") "__eq__")) && (decide (PySem.W.subIn K (.type "tuple") (.ref (He.ga K "Rule")) = some false) &&
  (match K.lookup (He.ma K (He.ga K "Rule") "__eq__") with
    | some ⟨.type "function", _, _, _⟩ => true
    | _ => false))))
structure EqCls (K : PySem.W.Frag) : Prop where
  c : ∃ nm q N bs sn sub ab col dd k0 k1 k2 k3 k5 n hd, K.lookup (He.ga K "Rule") = some (excClassObj nm q (He.ga K "Rule") N bs [.type "object"] hd sn sub ab col dd k0 k1 k2 k3 k5 n) ∧ PySem.W.nsOkIn K N = true ∧ PySem.W.nsIn K N "__eq__" = some (some (.ref (He.ma K (He.ga K "Rule") "__eq__"))) ∧ PySem.W.nsIn K N "__ne__" = some none
  f : PySem.W.findIn K (.ref (He.ga K "Rule")) "__eq__" = some (some (.ref (He.ma K (He.ga K "Rule") "__eq__")))
  fn : PySem.W.isFn K (.ref (He.ma K (He.ga K "Rule") "__eq__")) = true
  tu : PySem.W.subIn K (.type "tuple") (.ref (He.ga K "Rule")) = some false
  o : ∃ d dt sl, K.lookup (He.ma K (He.ga K "Rule") "__eq__") = some ⟨.type "function", d, dt, sl⟩
theorem eqB2_ok {K : PySem.W.Frag} (h : eqB2 K = true) : EqCls K := by
  unfold eqB2 at h
  simp only [Bool.and_eq_true, decide_eq_true_eq] at h
  obtain ⟨h1, h2, h3, h4, h5⟩ := h
  refine ⟨?_, h2, h3, h4, ?_⟩
  · unfold eqB at h1
    split at h1
    · rename_i dd cd sl ho
      split at h1
      · rename_i C' t k0 k1 k2 k3 n k5 hm hs
        simp only [Bool.and_eq_true, beq_iff_eq, Bool.not_eq_true', decide_eq_true_eq] at h1
        obtain ⟨rfl, rfl, hdel, hns, he, hne⟩ := h1
        obtain ⟨nm, bs, mro, ns, qn, hd, sn, sub, ab, col, del⟩ := cd
        dsimp only at hm hdel hns he hne
        subst hm hdel
        have hsl : sl = #[k0, k1, k2, k3, some (.builtin n), k5] := by
          obtain ⟨l⟩ := sl
          simp only at hs
          rw [hs]
        subst hsl
        exact ⟨nm, qn, ns, bs, sn, sub, ab, col, dd, k0, k1, k2, k3, k5, n, hd, ho, hns, he, hne⟩
      · cases h1
    · cases h1
  · split at h5
    · rename_i d dt sl e
      exact ⟨d, dt, sl, e⟩
    · cases h5
theorem ns_get {K : PySem.W.Frag} {h : Heap} {N : Addr} {m : Str → Option Value} {n : Str} {v : Value} (X : K.In h) (G : h.Ns N m) (e : PySem.W.nsIn K N n = some (some v)) : m n = some v := by
  obtain ⟨o, es, ep, ho, hd, _, hf⟩ := G
  unfold PySem.W.nsIn at e
  cases q : K.lookup N with
  | none => rw [q] at e; cases e
  | some ob =>
    rw [q] at e
    have hob := X _ _ q
    rw [ho] at hob
    cases hob
    obtain ⟨oc, od, dt, sl⟩ := o
    simp only at hd
    subst hd
    simp only at e
    cases k : es.toList.find? (·.key.isStr n) with
    | none =>
      rw [k] at e
      simp only at e
      split at e <;> cases e
    | some en =>
      rw [k] at e
      cases e
      rw [← hf]
      unfold nsFind findBy
      rw [← Array.find?_toList, k]
      rfl
/-- the class's == -/
structure EqFn (P : Program) (w : World) (K : PySem.W.Frag) (mg : Str → Option Value) (base : Heap) (k : Nat) (g : FnM) : Prop where
  c : EqCls K
  ex : ∃ fd ps, FnOk P w K mg base (L2.CX P w) k (He.ma K (He.ga K "Rule") "__eq__") fd ps (spM w K 2 g) ∧ Binds K fd ps []
def rEqO (w : World) (K : PySem.W.Frag) (g : FnM) (neg : Bool) : R2 := fun x y H Q => ∃ a dx fs, x = .ref a ∧ H a = some (.ins (He.ga K "Rule") dx fs) ∧ ((∃ b dy gs, y = .ref b ∧ H b = some (.ins (He.ga K "Rule") dy gs)) ∨ (neg = false ∧ ∃ t xs, y = .ref t ∧ SqT K H t xs)) ∧
  spM w K 2 g [x, y] H (fun v H' => ∃ b : Bool, v = .bl b ∧ Q (.bl (b != neg)) H') E0
section
variable {X : Cx} {W : WX} {k k' : Nat} {g : FnM} {a b : Expr} {ma mb : M Ref} {pos : Pos}
theorem op_eqO (G : EqFn X.prog X.w X.K X.mg X.base k g) (hr : Room k X.A) : OpR X (compareOp .Eq) (rEqO X.w X.K g false) := by
  intro pins s σ H x y v u Q I rx ry h
  obtain ⟨a, dx, fs, rfl, ha, hy, hsp⟩ := h
  obtain ⟨c, fd, ps, FO, hb⟩ := G
  cases rx
  obtain ⟨mA, J, _⟩ := ins_get I.hok ha
  obtain ⟨od, J, _⟩ := J.look
  obtain ⟨m, hF⟩ := I.fr
  have run : wpAny (model X.prog X.w) X.A (call (.ref (He.ma X.K (He.ga X.K "Rule") "__eq__")) [.ref a, u]) (PySem.W.CmpBack (EP X pins σ Q)) X.xe s := by
    have hl := FO.len _ _ _ _ hsp
    refine wpAny_call (codeAny_mono (FO.run X.A X.stack s H ⟨[.ref a, u], []⟩ [.ref a, u] [.ref a, y] _ E0 hr I.env0 (by
      have := hb s [.ref a, u] I.kIn (by simpa using hl)
      simpa using this) (.cons rfl (.cons ry .nil)) hsp) fun r s' hq => ?_)
    cases r with
    | error e => exact passL pins σ H s e s' I hq
    | ok fl =>
      cases fl with
      | ret w =>
        obtain ⟨z, H', I', rz, b, ez, q⟩ := I.after hq
        subst ez
        cases rz
        have hbf : (b != false) = b := by cases b <;> rfl
        rw [hbf] at q
        exact ⟨.bl b, H', I', rfl, q⟩
      | next => exact False.elim hq
      | brk => exact False.elim hq
      | cont => exact False.elim hq
  show wpAny (model X.prog X.w) X.A (richCompare .Eq (.ref a) u) (EP X pins σ Q) X.xe s
  rcases hy with ⟨b, dy, gs, rfl, hb'⟩ | ⟨_, t, xs, rfl, ht⟩
  · cases ry
    obtain ⟨mB, J', _⟩ := ins_get I.hok hb'
    obtain ⟨od', J', _⟩ := J'.look
    exact PySem.W.cmp_K (op := .Eq) (tb := .ref (He.ga X.K "Rule")) hr.units0 hF I.ok.mod.kin J J'.type (by simp [PySem.W.notFirst]) c.f c.fn run
  · cases ry
    obtain ⟨its, rv, ⟨o, ho, hc, n, hd⟩, hz⟩ := I.tuple ht
    exact PySem.W.cmp_K (op := .Eq) (tb := .type "tuple") hr.units0 hF I.ok.mod.kin J (hc ▸ (PySem.W.Looks.ld ho).andThen .now) (by simp [PySem.W.notFirst, c.tu]) c.f c.fn run
theorem op_neO (G : EqFn X.prog X.w X.K X.mg X.base k g) (hr : Room (k + 1) X.A) : OpR X (compareOp .NotEq) (rEqO X.w X.K g true) := by
  intro pins s σ H x y v u Q I rx ry h
  obtain ⟨a, dx, fs, rfl, ha, hy, hsp⟩ := h
  obtain ⟨c, fd, ps, FO, hb⟩ := G
  cases rx
  obtain ⟨mA, J, _⟩ := ins_get I.hok ha
  obtain ⟨od, J, _⟩ := J.look
  have run : wpAny (model X.prog X.w) X.A.in1 (call (.ref (He.ma X.K (He.ga X.K "Rule") "__eq__")) [.ref a, u]) (fun v s' => ∃ b, v = .bool b ∧ EP X pins σ Q (.bool (!b)) s') X.xe s := by
    have hl := FO.len _ _ _ _ hsp
    refine wpAny_call (codeAny_mono (FO.run X.A.in1 X.stack s H ⟨[.ref a, u], []⟩ [.ref a, u] [.ref a, y] _ E0 hr.in1 I.env0.in1 (by
      have := hb s [.ref a, u] I.kIn (by simpa using hl)
      simpa using this) (.cons rfl (.cons ry .nil)) hsp) fun r s' hq => ?_)
    cases r with
    | error e => exact passL pins σ H s e s' I hq
    | ok fl =>
      cases fl with
      | ret w =>
        obtain ⟨z, H', I', rz, b, ez, q⟩ := I.after hq
        subst ez
        cases rz
        have hbf : (b != true) = !b := by cases b <;> rfl
        rw [hbf] at q
        exact ⟨b, rfl, .bl (!b), H', I', rfl, q⟩
      | next => exact False.elim hq
      | brk => exact False.elim hq
      | cont => exact False.elim hq
  rcases hy with ⟨b, dy, gs, rfl, hb'⟩ | ⟨z, _⟩
  · cases ry
    obtain ⟨mB, J', _⟩ := ins_get I.hok hb'
    obtain ⟨od', J', _⟩ := J'.look
    obtain ⟨nm, q, N, bs, sn, sub, ab, col, dd, k0, k1, k2, k3, k5, n, hd, hC, hns, he, hne⟩ := c.c
    obtain ⟨d, dt, sl, hf⟩ := c.o
    have G := Heap.Ns.of_isNs (PySem.W.isNs_of_in I.kIn hns)
    obtain ⟨h, g', d', t, os⟩ := s
    exact compareOp_ne_ownEq F.cmp_object ⟨_, _, nm, q, N, bs, hd, sn, sub, ab, col, dd, k0, k1, k2, k3, k5, n, _, _, J.at_, J.cls, I.kIn _ _ hC, G, ns_get I.kIn G he, I.kIn _ _ hf, rfl, F.cmp_object.mro, F.cmp_object.eq.lookup, PySem.W.ns_none_of I.kIn G hne⟩ J'.at_ J'.cls (by have := hr.un; omega) run
  · cases z
/-- the mirror -/
def callG (g : FnM) (ds : List D) (neg : Bool) : M D := bindM (callN g ds) fun r => match r with
  | .bl b => pureM (.bl (b != neg))
  | _ => errM
def eqDF (neg : Bool) (d d' : D) : Option D := if neg = true then neF d d' else eqF d d'
def eqOM (ma mb : M Ref) (g : FnM) (neg : Bool) : M D := bindM ma fun x => bindM mb fun y => bindM (derefM x) fun d => bindM (derefM y) fun d' => match d with
  | .obj l => (match d' with
    | .obj l' => callG g [.obj l, .obj l'] neg
    | .tup l' => if neg = true then errM else callG g [.obj l, .tup l'] neg
    | _ => errM)
  | _ => liftO (eqDF neg d d')
def rEqA (w : World) (K : PySem.W.Frag) (g : FnM) (neg : Bool) : R2 := fun x y H Q => (if neg = true then rNeD K x y H Q else rEqD K x y H Q) ∨ rEqO w K g neg x y H Q
theorem callG_sp {ra : Addr} {HK : Kp} {F H : Hp} {e : Env} {σ : St} {Q : VK} {ds : List D} {neg : Bool} {vs : List V} (R : Rel X.w X.K ra HK F e σ H) (hl : ds.length = 2) (hv : RepA X.w X.K ra F vs ds)
    (h : (callG g ds neg e).wp (okG TV X.w X.K ra HK F σ Q) (exW X.w X.K ra HK F W)) : spM X.w X.K 2 g vs H (fun v H' => ∃ b : Bool, v = .bl b ∧ Q (.bl (b != neg)) H') E0 := by
  refine ⟨ra, F, ds, e.row, R.fh, R.fra, R.row, hv, hl, ?_⟩
  unfold callG at h
  have h0 := wp_bind.mp h
  have h1 : Res.wp (match g ds e.row with
    | .ret d row' => Res.ok d { e with row := row' }
    | _ => Res.err) (fun r e' => Res.wp ((match r with
      | .bl b => pureM (.bl (b != neg))
      | _ => errM : M D) e') (okG TV X.w X.K ra HK F σ Q) (exW X.w X.K ra HK F W)) (exW X.w X.K ra HK F W) := h0
  cases eg : g ds e.row with
  | err =>
    rw [eg] at h1
    exact h1
  | exc x row' =>
    rw [eg] at h1
    exact False.elim h1
  | ret d row' =>
    rw [eg] at h1
    intro F' H' v af rv
    cases d with
    | bl b =>
      cases rv
      exact ⟨b, rfl, h1 _ F' H' af.f (R.after af) (.bl _)⟩
    | _ => exact h1.elim
theorem eqO_read {σ : St} {H : Hp} {Q : VK} {neg : Bool} (h : tG TV X.w X.K W (eqOM ma mb g neg) σ H Q) : tOp (rEqA X.w X.K g neg) (tG TR X.w X.K W ma) (tG TR X.w X.K W mb) σ H Q := by
  obtain ⟨ra, HK, F, e, R, h⟩ := h
  unfold eqOM at h
  refine stepG R h fun F1 e1 x v H1 s1 R1 r1 q1 => ?_
  refine stepG R1 q1 fun F2 e2 y u H2 s2 R2 r2 q2 => ?_
  have r1' : TR X.w X.K ra HK σ e2 F2 H2 v x := by
    cases x with
    | val d => exact Rep.mono s2 r1
    | slot i => exact r1
  obtain ⟨d, hd, q3, _⟩ := R2.deref r1' q2
  obtain ⟨d', hd', q4, _⟩ := R2.deref r2 q3
  have plain : (liftO (eqDF neg d d') e2).wp (okG TV X.w X.K ra HK F2 σ Q) (exW X.w X.K ra HK F2 W) → rEqA X.w X.K g neg v u H2 Q := fun q => by
    unfold liftO at q
    cases ez : eqDF neg d d' with
    | none =>
      rw [ez] at q
      exact q.elim
    | some z =>
      rw [ez] at q
      left
      unfold eqDF at ez
      cases neg with
      | true =>
        simp only [if_true] at ez ⊢
        exact ops_ne ra HK F2 e2 σ H2 v u d d' z Q R2 hd hd' ez q
      | false =>
        simp only [Bool.false_eq_true, if_false] at ez ⊢
        exact ops_eq ra HK F2 e2 σ H2 v u d d' z Q R2 hd hd' ez q
  have isV : ∀ {v : V} {d : D}, Held X.w X.K ra F2 H2 v d → (∀ l, d ≠ .lst l) → (∀ l, d ≠ .dct l) → Rep X.w X.K ra F2 v d := fun h n1 n2 => by
    cases h with
    | val r => exact r
    | @own a o ro _ _ =>
      cases o with
      | lst l => exact absurd rfl (n1 l)
      | dct l => exact absurd rfl (n2 l)
  cases d with
  | obj l =>
    have rv := isV hd (fun _ z => by cases z) (fun _ z => by cases z)
    have rv' := rv
    cases rv with
    | @obj a dx vs ds h1 h2 h3 =>
      right
      cases d' with
      | obj l' =>
        have ru := isV hd' (fun _ z => by cases z) (fun _ z => by cases z)
        have ru' := ru
        cases ru with
        | @obj b dy ws es k1 k2 k3 => exact ⟨a, dx, _, rfl, R2.fh _ _ h1, .inl ⟨b, dy, _, rfl, R2.fh _ _ k1⟩, callG_sp R2 rfl (.cons rv' (.cons ru' .nil)) q4⟩
      | tup l' =>
        have ru := isV hd' (fun _ z => by cases z) (fun _ z => by cases z)
        have ru' := ru
        cases neg with
        | true =>
          simp only [if_true] at q4
          exact q4.elim
        | false =>
          simp only [Bool.false_eq_true, if_false] at q4
          cases ru with
          | @tup b ws es k1 k2 => exact ⟨a, dx, _, rfl, R2.fh _ _ h1, .inr ⟨rfl, b, ws, rfl, Same.seqT R2.fh k1⟩, callG_sp R2 rfl (.cons rv' (.cons ru' .nil)) q4⟩
      | _ => exact q4.elim
  | _ => exact plain q4
theorem op_eqA (G : EqFn X.prog X.w X.K X.mg X.base k g) (hr : Room k X.A) (hu : X.A.units + 64 < cLine) : OpR X (compareOp .Eq) (rEqA X.w X.K g false) := by
  intro pins s σ H x y v u Q I rx ry h
  rcases h with h | h
  · exact op_eqD hu pins s σ H x y v u Q I rx ry (by simpa using h)
  · exact op_eqO G hr pins s σ H x y v u Q I rx ry h
theorem op_neA (G : EqFn X.prog X.w X.K X.mg X.base k g) (hr : Room (k + 1) X.A) (hu : X.A.units + 64 < cLine) : OpR X (compareOp .NotEq) (rEqA X.w X.K g true) := by
  intro pins s σ H x y v u Q I rx ry h
  rcases h with h | h
  · exact op_neD hu pins s σ H x y v u Q I rx ry (by simpa using h)
  · exact op_neO G hr pins s σ H x y v u Q I rx ry h
theorem pm_eqO (G : EqFn X.prog X.w X.K X.mg X.base k g) (hr : Room k' X.A) (ha : PMR X W a ma) (hb : PMR X W b mb) (hk : k + 1 ≤ k' := by decide) : PM X W (.Compare a [.Eq] [b] pos) (eqOM ma mb g false) :=
  PE.weaken (pe_cmpR (op_eqA G (hr.mono (by omega)) (by have := hr.un; omega)) ha hb (nomark _)) fun _ _ _ h => eqO_read h
theorem pmt_neO (G : EqFn X.prog X.w X.K X.mg X.base k g) (hr : Room k' X.A) (ha : PMR X W a ma) (hb : PMR X W b mb) (hk : k + 1 ≤ k' := by decide) : PMT X W (.Compare a [.NotEq] [b] pos) (testM (eqOM ma mb g true)) := by
  refine PT.weaken (pt_cmpR (op_neA G (hr.mono hk) (by have := hr.un; omega)) ha hb (nomark _)) fun σ H Q h => ?_
  exact eqO_read (test_read h)
end
end Mi

set_option Elab.async false
set_option linter.all false
set_option maxRecDepth 100000
set_option maxHeartbeats 4000000
/-! Mi, part M15: a comprehension over one's own list, which stays one's own. -/
namespace Mi
open PySem PySem.Spec PyProof.Rows L2
section
variable {w : World} {K : PySem.W.Frag} {ra : Addr} {HK : Kp} {F F' H H' : Hp} {e : Env} {σ : St}
end
section
variable {X : Cx} {W : WX} {elt tg : Expr} {ifs : List Expr} {scope : Scope} {own : List (Str × Nat)} {pos xpos : Pos} {g : D → M Unit} {t : M Bool} {el : M D} {is : List Nat} {x : Str}
end
end Mi

set_option Elab.async false
set_option linter.all false
set_option maxRecDepth 100000
set_option maxHeartbeats 4000000
/-! Mi, part M16: texts: str, int of a text, join, split, f-strings. -/
namespace Mi
open PySem PySem.Spec PyProof.Rows L2
def intTF (d : D) : Option D := match d with
  | .str a => (match PySem.intText? a with
    | some n => if a.length ≤ 640 then some (.int n) else none
    | none => none)
  | _ => none
def strF (d : D) : Option D := match d with
  | .int i => if i.natAbs.log2 < 1920 then some (.str (toString i)) else none
  | _ => none
def strsOf : List D → Option (List Str)
  | [] => some []
  | .str y :: l => (strsOf l).map (y :: ·)
  | _ :: _ => none
def joinF (a : Str) (d : D) : Option D := match d with
  | .lst l => (match strsOf l with
    | some ys => if (ys.map (·.length)).sum + ys.length * a.length ≤ 16777216 then some (.str (Txt.join a ys)) else none
    | none => none)
  | _ => none
def splitF (a : Str) (d : D) : Option OD := match d with
  | .str b => if (b.length == 0) = false ∧ a.length ≤ 1000000 then some (.lst ((Txt.split a b).map D.str)) else none
  | _ => none
def joinM (ma : M D) (mb : M Ref) : M D := bindM ma fun d => match d with
  | .str a => bindM mb fun y => bindM (derefM y) fun d' => liftO (joinF a d')
  | _ => errM
def splitM (ma : M D) (mb : M Ref) : M OD := bindM ma fun d => match d with
  | .str a => bindM mb fun y => bindM (derefM y) fun d' => liftO (splitF a d')
  | _ => errM
theorem strs_rep {w : World} {K : PySem.W.Frag} {ra : Addr} {F : Hp} : ∀ {l : List D} {vs : List V} {ys : List Str}, RepA w K ra F vs l → strsOf l = some ys → vs = ys.map V.str
  | [], vs, ys, r, h => by
    cases h
    cases r
    rfl
  | .str y :: l, vs, ys, r, h => by
    unfold strsOf at h
    cases hs : strsOf l with
    | none =>
      rw [hs] at h
      cases h
    | some zs =>
      rw [hs] at h
      cases h
      cases r with
      | cons a r =>
        cases a
        rw [strs_rep r hs]
        rfl
  | .non :: l, vs, ys, r, h => by cases h
  | .bl _ :: l, vs, ys, r, h => by cases h
  | .int _ :: l, vs, ys, r, h => by cases h
  | .tup _ :: l, vs, ys, r, h => by cases h
  | .lst _ :: l, vs, ys, r, h => by cases h
  | .dct _ :: l, vs, ys, r, h => by cases h
  | .obj _ :: l, vs, ys, r, h => by cases h
  | .row :: l, vs, ys, r, h => by cases h
section
variable {X : Cx} {W : WX} {a b : Expr} {ma : M D} {mr mb : M Ref} {apos pos : Pos}
theorem c1s_intT : C1S X.w X.K (fun xs H Q => ∃ a n, xs = [.str a] ∧ PySem.intText? a = some n ∧ a.length ≤ 640 ∧ Q (.int n) H) intTF := by
  intro ra HK F e σ H x d z Q R hx hz q
  cases d with
  | str i =>
    unfold intTF at hz
    simp only at hz
    cases hn : PySem.intText? i with
    | none =>
      rw [hn] at hz
      cases hz
    | some n =>
      rw [hn] at hz
      simp only at hz
      by_cases c : i.length ≤ 640
      · rw [if_pos c] at hz
        cases hz
        exact ⟨i, n, by rw [hx.str_], hn, c, q _ F H (Same.refl F) R (.int _)⟩
      · rw [if_neg c] at hz
        cases hz
  | _ => cases hz
theorem pm_intT {p : Pos} (hm : X.mg "int" = none) (ha : PMR X W a mr) (hg : Gl X "int" := by rfl) (hse : starEach [a] X.env = (false, eval a X.env) :: starEach [] X.env := by rfl) : PM X W (.Call (.Name "int" p) [a] [] pos) (op1M mr intTF) :=
  pm_callT1 call_int_str c1s_intT hm boot_int ha hg (by decide) (by decide) hse
theorem c1s_str : C1S X.w X.K (fun xs H Q => ∃ i, xs = [.int i] ∧ i.natAbs.log2 < 1920 ∧ Q (.str (toString i)) H) strF := by
  intro ra HK F e σ H x d z Q R hx hz q
  cases d with
  | int i =>
    unfold strF at hz
    simp only at hz
    by_cases c : i.natAbs.log2 < 1920
    · rw [if_pos c] at hz
      cases hz
      exact ⟨i, by rw [hx.int_], c, q _ F H (Same.refl F) R (.str _)⟩
    · rw [if_neg c] at hz
      cases hz
  | _ => cases hz
theorem pm_toStr {p : Pos} (hm : X.mg "str" = none) (ha : PMR X W a mr) (hg : Gl X "str" := by rfl) (hse : starEach [a] X.env = (false, eval a X.env) :: starEach [] X.env := by rfl) : PM X W (.Call (.Name "str" p) [a] [] pos) (op1M mr strF) :=
  pm_callT1 call_str_int c1s_str hm boot_str ha hg (by decide) (by decide) hse
theorem pm_join (ha : PM X W a ma) (hb : PMR X W b mb) (hs : starEach [b] X.env = [(false, eval b X.env)] := by rfl) (hbase : attributeBase a "join" X.env (eval a X.env) = eval a X.env := by rfl) (hline : (apos.endLine == pos.line) = true := by rfl) :
    PM X W (.Call (.Attribute a "join" apos) [b] [] pos) (joinM ma mb) := by
  refine PE.weaken (pe_join ha hb hs hbase hline) ?_
  rintro σ H Q ⟨ra, HK, F, e, R, hw⟩
  unfold joinM at hw
  refine stepG R hw fun F1 e1 d v H1 s1 R1 r1 q1 => ?_
  cases d with
  | str x =>
    cases r1
    refine ⟨⟨x, rfl⟩, stepG R1 q1 fun F2 e2 r v2 H2 s2 R2 r2 q2 => ?_⟩
    obtain ⟨d', hd, q3, _⟩ := R2.deref r2 q2
    cases d' with
    | lst l =>
      obtain ⟨p, vs, rfl, h1, h2⟩ := hd.lst R2.fh
      unfold liftO joinF at q3
      simp only at q3
      cases hy : strsOf l with
      | none =>
        rw [hy] at q3
        exact q3.elim
      | some ys =>
        rw [hy] at q3
        simp only at q3
        by_cases c : (ys.map (·.length)).sum + ys.length * x.length ≤ 16777216
        · rw [if_pos c] at q3
          refine ⟨x, p, ys, rfl, rfl, .inl ?_, c, q3 _ F2 H2 (Same.refl F2) R2 (.str _)⟩
          rw [← strs_rep h2 hy]
          exact .of h1
        · rw [if_neg c] at q3
          exact q3.elim
    | _ => exact q3.elim
  | _ => exact q1.elim
theorem pmo_split (ha : PM X W a ma) (hb : PMR X W b mb) (hs : starEach [b] X.env = [(false, eval b X.env)] := by rfl) (hbase : attributeBase a "split" X.env (eval a X.env) = eval a X.env := by rfl) (hline : (apos.endLine == pos.line) = true := by rfl) :
    PMO X W (.Call (.Attribute a "split" apos) [b] [] pos) (splitM ma mb) := by
  refine PE.weaken (pe_split ha hb hs hbase hline) ?_
  rintro σ H Q ⟨ra, HK, F, e, R, hw⟩
  unfold splitM at hw
  refine stepG R hw fun F1 e1 d v H1 s1 R1 r1 q1 => ?_
  cases d with
  | str x =>
    cases r1
    refine ⟨⟨x, rfl⟩, stepG R1 q1 fun F2 e2 r v2 H2 s2 R2 r2 q2 => ?_⟩
    obtain ⟨d', hd, q3, _⟩ := R2.deref r2 q2
    cases d' with
    | str y =>
      unfold liftO splitF at q3
      simp only at q3
      by_cases c : (y.length == 0) = false ∧ x.length ≤ 1000000
      · rw [if_pos c] at q3
        refine ⟨x, y, rfl, by rw [hd.str_], c.1, ?_, fun p hp => ?_⟩
        · have : (1000002 : Nat) ≤ sizeLine := by decide
          omega
        · obtain ⟨f1, f2, f3, f4⟩ := fresh_own R2 hp (o := .lst ((Txt.split x y).map D.str)) (.inr trivial)
          refine q3 _ _ _ (Same.refl F2) (R2.grow hp _) ⟨p, rfl, ⟨_, upd_same, ?_⟩, f1, f2, f3, f4⟩
          generalize Txt.split x y = l
          induction l with
          | nil => exact .nil
          | cons z l ih => exact .cons (.str z) ih
      · rw [if_neg c] at q3
        exact q3.elim
    | _ => exact q3.elim
  | _ => exact q1.elim
/-! ### f-strings -/
end
end Mi

set_option Elab.async false
set_option linter.all false
set_option maxRecDepth 100000
set_option maxHeartbeats 4000000
/-! Mi, part M17: how often a truth value stands in a list. -/
namespace Mi
open PySem PySem.Spec PyProof.Rows L2
section
variable {X : Cx} {W : WX} {a b : Expr} {ma mb : M D} {apos pos : Pos}
end
end Mi

set_option Elab.async false
set_option linter.all false
set_option maxRecDepth 100000
set_option maxHeartbeats 4000000
/-! Mi, part M18: x[i] op= e on a list of one's own, whole numbers. -/
namespace Mi
open PySem PySem.Spec PyProof.Rows L2
section
variable {X : Cx} {W : WX} {x : Str} {p tpos pos : Pos}
end
end Mi

set_option Elab.async false
set_option linter.all false
set_option maxRecDepth 100000
set_option maxHeartbeats 4000000
/-! Mi, part M19: a rule made and a field of it set at once. -/
namespace Mi
open PySem PySem.Spec PyProof.Rows L2
section
variable {X : Cx} {W : WX} {k k' : Nat} {g : FnM} {e : Expr} {es : List Expr} {p pos : Pos} {r : M (List D)}
end
section
variable {w : World} {K : PySem.W.Frag} {ra : Addr} {HK : Kp} {F F' H H' : Hp} {e : Env} {σ : St}
end
section
variable {X : Cx} {W : WX}
end
end Mi

set_option Elab.async false
set_option linter.all false
set_option maxRecDepth 100000
set_option maxHeartbeats 4000000
/-! Mi, part M20: min(words, key=f), f a def that tells (how long, the word). -/
namespace Mi
open PySem PySem.Spec PyProof.Rows L2
open PySem.W (dataLt keyToks iter_listW argBest_fold)
/-- nothing but new tuples -/
def Grown (H H' : Hp) : Prop := ∀ b, H' b = H b ∨ (H b = none ∧ ∃ xs, H' b = some (.tup xs))
theorem Grown.refl (H : Hp) : Grown H H := fun _ => .inl rfl
theorem Grown.at {H H' : Hp} (g : Grown H H') {b : Addr} (h : H b ≠ none) : H' b = H b := (g b).elim id fun z => absurd z.1 h
theorem Grown.same {H H' : Hp} (g : Grown H H') : Same H H' := fun b u e => (g.at (by rw [e]; exact fun z => by cases z)).trans e
theorem Grown.free {H H' : Hp} (g : Grown H H') {b : Addr} (h : H' b = none) : H b = none := (g b).elim (fun z => z ▸ h) fun z => z.1
theorem Grown.step {H H' : Hp} (g : Grown H H') {a : Addr} (h : H' a = none) (xs : List V) : Grown H (upd H' a (.tup xs)) := fun b => by
  by_cases c : b = a
  · subst c
    exact .inr ⟨g.free h, xs, upd_same⟩
  · rw [upd_ne c]
    exact g b
/-! ### the order -/
/-! ### the key's promise -/
def spOrd (K : PySem.W.Frag) : Sp := fun vs H Q _ => ∃ b ns, vs = [.ref b] ∧ SqT K H b (List.map V.int ns) ∧ ∀ a, H a = none → Q (.ref a) (upd H a (.tup [.int ns.length, .ref b]))
structure FnOrd (P : Program) (w : World) (K : PySem.W.Frag) (mg : Str → Option Value) (base : Heap) (x : Str) (k : Nat) : Prop where
  ex : ∃ f fd ps, FnOk P w K mg base (L2.CX P w) k f fd ps (spOrd K) ∧ mg x = some (.ref f) ∧ PySem.W.keepIn K (.ref f) = true ∧ Binds K fd ps []
section
variable {X : Cx} {W : WX}
end
end Mi

set_option Elab.async false
set_option linter.all false
set_option maxRecDepth 100000
set_option maxHeartbeats 4000000
/-! Mi, part M21: zip of a tuple and a list. -/
namespace Mi
open PySem PySem.Spec PyProof.Rows L2
section
variable {X : Cx} {W : WX}
end
end Mi

set_option Elab.async false
set_option linter.all false
set_option maxRecDepth 100000
set_option maxHeartbeats 4000000
/-! Mi, part M22: lists of one's own by +; xs[::-1] of a list; a new list that a call gives back. -/
namespace Mi
open PySem PySem.Spec PyProof.Rows L2
def catO (d e : D) : Option OD := match d, e with
  | .lst xs, .lst ys => if xs.length + ys.length ≤ 1000000 then some (.lst (xs ++ ys)) else none
  | _, _ => none
section
variable {X : Cx} {W : WX} {a b : Expr} {ma mb : M Ref} {pos : Pos}
theorem pmo_cat (ha : PMR X W a ma) (hb : PMR X W b mb) : PMO X W (.BinOp a .Add b pos) (op2O ma mb catO) := by
  refine PE.weaken (pe_op op_cat ha hb) ?_
  rintro σ H Q ⟨ra, HK, F, e, R, h⟩
  unfold op2O at h
  refine stepG R h fun F1 e1 x v H1 s1 R1 r1 q1 => ?_
  refine stepG R1 q1 fun F2 e2 y u H2 s2 R2 r2 q2 => ?_
  have r1' : TR X.w X.K ra HK σ e2 F2 H2 v x := by
    cases x with
    | val d => exact Rep.mono s2 r1
    | slot i => exact r1
  obtain ⟨d, hd, q3, _⟩ := R2.deref r1' q2
  obtain ⟨d', hd', q4, _⟩ := R2.deref r2 q3
  cases d with
  | lst i =>
    cases d' with
    | lst j =>
      unfold liftO catO at q4
      by_cases c : i.length + j.length ≤ 1000000
      · simp only [if_pos c] at q4
        obtain ⟨p1, vs, rfl, h1, h2⟩ := hd.lst R2.fh
        obtain ⟨p2, us, rfl, h3, h4⟩ := hd'.lst R2.fh
        refine ⟨p1, p2, vs, us, rfl, rfl, h1, h3, by rw [h2.length, h4.length]; exact le_line c, fun p hp => ?_⟩
        obtain ⟨f1, f2, f3, f4⟩ := fresh_own R2 hp (o := .lst (i ++ j)) (.inr trivial)
        exact q4 _ _ _ (Same.refl F2) (R2.grow hp _) ⟨p, rfl, ⟨_, upd_same, h2.append h4⟩, f1, f2, f3, f4⟩
      · simp only [if_neg c] at q4
        exact q4.elim
    | _ => exact q4.elim
  | _ => exact q4.elim
def revLF (d : D) : Option D := match d with
  | .lst l => some (.lst l.reverse)
  | _ => none
theorem pm_revL {k : Nat} {p1 p2 p3 : Pos} (ha : PMR X W a ma) : PM X W (.Subscript a (.Slice none none (some (.UnaryOp .USub (.Constant (.int 1) k p1) p2)) p3) pos) (op1M ma revLF) := by
  refine PE.weaken (pe_revL ha) ?_
  rintro σ H Q ⟨ra, HK, F, e, R, hw⟩
  unfold op1M at hw
  refine stepG R hw fun F1 e1 x v H1 s1 R1 r1 q1 => ?_
  obtain ⟨d, hd, q2, _⟩ := R1.deref r1 q1
  cases d with
  | lst l =>
    obtain ⟨b, vs, rfl, h1, h2⟩ := hd.lst R1.fh
    refine ⟨b, vs, rfl, .of h1, fun p hp => ?_⟩
    obtain ⟨R4, s4⟩ := R1.alloc hp (.lst vs.reverse)
    exact q2 _ _ _ s4 R4 (.lst upd_same (RepA.mono s4 h2.reverse))
  | _ => exact q2.elim
end
/-! ### a call whose list is new -/
def D.isStr : D → Bool
  | .str _ => true
  | _ => false
/-- a list that is new: it holds texts, the callee was shown no list of texts -/
def newTexts (d : D) : Option OD := match d with
  | .lst (x :: l) => if (x :: l).all D.isStr = true then some (.lst (x :: l)) else none
  | _ => none
def callO (f : FnM) (r : M (List D)) : M OD := bindM r fun ds e => if (D.keys ds).isSome = true then (match f ds e.row with
  | .ret d row' => (match newTexts d with
    | some o => .ok o { e with row := row' }
    | none => .err)
  | _ => .err) else .err
/-- what is shown: nothing that is a list, but the row's own -/
def Shown (F : Hp) (L : Addr) : Hp := fun b => match F b with
  | some (.lst xs) => if b = L then some (.lst xs) else none
  | o => o
theorem shown_le (F : Hp) (L : Addr) : Same (Shown F L) F := fun b u h => by
  unfold Shown at h
  cases e : F b with
  | none =>
    rw [e] at h
    exact h
  | some o =>
    rw [e] at h
    cases o with
    | lst xs =>
      by_cases c : b = L
      · simp only [c, if_true] at h
        exact h
      · simp only [c, if_false] at h
        cases h
    | _ => exact h
theorem shown_keep {F : Hp} {L b : Addr} {u : HO} (h : F b = some u) (hn : ∀ xs, u ≠ .lst xs) : Shown F L b = some u := by
  unfold Shown
  rw [h]
  cases u with
  | lst xs => exact absurd rfl (hn xs)
  | _ => rfl
theorem shown_list {F : Hp} {L b : Addr} {xs : List V} (h : Shown F L b = some (.lst xs)) : b = L := by
  unfold Shown at h
  cases e : F b with
  | none =>
    rw [e] at h
    cases h
  | some o =>
    rw [e] at h
    cases o with
    | lst ys =>
      by_cases c : b = L
      · exact c
      · simp only [c, if_false] at h
        cases h
    | _ => cases h
section
variable {w : World} {K : PySem.W.Frag} {ra : Addr} {F : Hp}
mutual
theorem rep_shown (L : Addr) : ∀ {v : V} {d : D}, Rep w K ra F v d → d.key ≠ none → Rep w K ra (Shown F L) v d
  | _, _, .non, _ => .non
  | _, _, .bl b, _ => .bl b
  | _, _, .int i, _ => .int i
  | _, _, .str s, _ => .str s
  | _, .tup ds, .tup h r, hk => by
    refine .tup ?_ (repA_shown L r fun z => hk (by rw [D.key, z]; rfl))
    rcases h with (h | ⟨o, h⟩) | h
    · exact .inl (.inl (shown_keep h fun xs z => by cases z))
    · exact .inl (.inr ⟨o, shown_keep h fun xs z => by cases z⟩)
    · exact .inr h
  | _, _, .lst h r, hk => absurd rfl hk
  | _, _, .dct h r, hk => absurd rfl hk
  | _, _, .obj h hl r, hk => absurd rfl hk
  | _, _, .row, hk => absurd rfl hk
theorem repA_shown (L : Addr) : ∀ {vs : List V} {ds : List D}, RepA w K ra F vs ds → D.keys ds ≠ none → RepA w K ra (Shown F L) vs ds
  | _, _, .nil, _ => .nil
  | _, d :: ds, .cons h r, hk => .cons (rep_shown L h fun z => hk (by rw [D.keys, z])) (repA_shown L r fun z => hk (by rw [D.keys, z]; cases d.key <;> rfl))
end
theorem texts_any {F' : Hp} : ∀ {vs : List V} {l : List D}, RepA w K ra F vs l → l.all D.isStr = true → RepA w K ra F' vs l
  | _, _, .nil, _ => .nil
  | _, x :: l, .cons h r, ha => by
    rw [List.all_cons, Bool.and_eq_true] at ha
    cases h with
    | str s => exact .cons (.str s) (texts_any r ha.2)
    | _ => exact absurd ha.1 (by simp [D.isStr])
/-- the state behind a call that was shown less -/
theorem Rel.afterNew {F0 F' H H' : Hp} {HK : Kp} {e : Env} {σ : L2.St} {row' : RowS} {a : Addr} (R : Rel w K ra HK F e σ H) (le : Same F0 F) (A : Aft ra F0 H F' H' row') (hl : ∃ L, H' ra = some (.lst [.ref L, .int row'.at_, .int row'.big, .int row'.seed]) ∧ F' L = some (.lst (row'.xs.map V.int)) ∧ L ≠ a) (ha : H a = none) :
    Rel w K ra HK (fun b => if b = a then none else match F b with
      | some o => some o
      | none => F' b) { e with row := row' } σ H' ∧ Same F (fun b => if b = a then none else match F b with
      | some o => some o
      | none => F' b) := by
  have kp : ∀ b, F b = none ∧ HK.h b = none ∧ b ≠ ra ∧ H b ≠ none → H' b = H b := fun b hb => by
    cases ez : H b with
    | none => exact absurd ez hb.2.2.2
    | some u => exact A.kept b u ez hb.2.2.1
  have fa : ∀ b u, F b = some u → b ≠ a := fun b u h z => by
    have := R.fh b u h
    rw [z, ha] at this
    cases this
  have f0n : ∀ b, F b = none → F0 b = none := fun b h => by
    cases e0 : F0 b with
    | none => rfl
    | some u =>
      have := le b u e0
      rw [h] at this
      cases this
  have none2 : ∀ b, H b ≠ none → F b = none → (if b = a then none else match F b with
      | some o => some o
      | none => F' b) = none := fun b h1 h2 => by
    by_cases c : b = a
    · rw [if_pos c]
    · rw [if_neg c, h2]
      exact A.pn b h1 (f0n b h2)
  have sm : Same F (fun b => if b = a then none else match F b with
      | some o => some o
      | none => F' b) := fun b u h => by
    show (if b = a then none else match F b with
      | some o => some o
      | none => F' b) = some u
    rw [if_neg (fa b u h), h]
  refine ⟨⟨fun b u q => ?_, fun b u q => A.kept b u (R.kh b u q) (fun z => by rw [z, R.kra] at q; cases q), R.len, fun i s h => ?_, R.sep.heap fun i s b h c hs => kp b (R.foot h c hs (.inl rfl)), ?_, ?_, R.kra, fun b hb => ⟨(R.pn b hb).1, none2 b ?_ (R.pn b hb).2⟩⟩, sm⟩
  · have q' : (if b = a then none else match F b with
      | some o => some o
      | none => F' b) = some u := q
    by_cases c : b = a
    · rw [if_pos c] at q'
      cases q'
    · rw [if_neg c] at q'
      cases e1 : F b with
      | none =>
        rw [e1] at q'
        exact A.fh b u q'
      | some o =>
        rw [e1] at q'
        cases q'
        exact A.kept b u (R.fh b u e1) fun z => by rw [z, R.fra] at e1; cases e1
  · refine (R.sl i s h).mono sm fun q hc eq p hf => ?_
    have g := R.foot h hc eq hf
    exact ⟨kp p g, by rw [none2 p g.2.2.2 g.1, g.1]⟩
  · obtain ⟨L, h1, h2, h3⟩ := hl
    refine ⟨L, h1, ?_⟩
    show (if L = a then none else match F L with
      | some o => some o
      | none => F' L) = _
    rw [if_neg h3]
    cases e1 : F L with
    | none => exact h2
    | some o =>
      have g1 := A.kept L o (R.fh L o e1) fun z => by rw [z, R.fra] at e1; cases e1
      have g2 := A.fh L _ h2
      rw [g1] at g2
      exact g2
  · exact none2 ra R.ra_some R.fra
  · cases ez : HK.h b with
    | none => exact absurd ez (R.pn b hb).1
    | some u =>
      rw [R.kh b u ez]
      exact fun z => by cases z
end
section
variable {X : Cx} {W : WX} {x : Str} {k k' n : Nat} {g : FnM} {e : Expr} {es : List Expr} {p pos : Pos} {r : M (List D)}
theorem callO_read {n : Nat} {σ : L2.St} {H : Hp} {Q : VK} (h : tG TO X.w X.K W (callO g r) σ H Q) (hn : ∀ e ds e', r e = .ok ds e' → ds.length = n) : tCallS (spM X.w X.K n g) (WE W) (tG TAs X.w X.K W r) σ H Q := by
  obtain ⟨ra, HK, F, e, R, h⟩ := h
  unfold callO at h
  have h0 := wp_bind.mp h
  refine ⟨ra, HK, F, e, R, ?_⟩
  cases er : r e with
  | err =>
    rw [er] at h0
    exact h0
  | exc x e1 =>
    rw [er] at h0
    exact h0
  | ok ds e1 =>
    rw [er] at h0
    intro vs F1 H1 s1 R1 r1
    have h1 : Res.wp (if (D.keys ds).isSome = true then (match g ds e1.row with
      | .ret d row' => (match newTexts d with
        | some o => .ok o { e1 with row := row' }
        | none => .err)
      | _ => .err) else .err) (okG TO X.w X.K ra HK F σ Q) (exW X.w X.K ra HK F W) := h0
    by_cases hk : (D.keys ds).isSome = true
    · rw [if_pos hk] at h1
      obtain ⟨L, hL1, hL2⟩ := R1.row
      have le := shown_le F1 L
      have hk' : D.keys ds ≠ none := fun z => by rw [z] at hk; cases hk
      refine ⟨ra, Shown F1 L, ds, e1.row, le.trans R1.fh, ?_, ⟨L, hL1, ?_⟩, repA_shown L r1 hk', hn _ _ _ er, ?_⟩
      · cases e2 : Shown F1 L ra with
        | none => rfl
        | some u =>
          have := le _ _ e2
          rw [R1.fra] at this
          cases this
      · unfold Shown
        rw [hL2]
        simp
      · cases eg : g ds e1.row with
        | err =>
          rw [eg] at h1
          exact h1
        | exc y row' =>
          rw [eg] at h1
          exact h1.elim
        | ret d row' =>
          rw [eg] at h1
          intro F' H' v A rv
          cases d with
          | lst l =>
            cases l with
            | nil => exact h1.elim
            | cons t l =>
              by_cases ht : (t :: l).all D.isStr = true
              · simp only [newTexts, if_pos ht] at h1
                cases rv with
                | @lst a us ds' h3 h4 =>
                  have hna : H1 a = none := by
                    cases e5 : H1 a with
                    | none => rfl
                    | some u =>
                      cases e6 : Shown F1 L a with
                      | none =>
                        have := A.pn a (by rw [e5]; exact fun z => by cases z) e6
                        rw [h3] at this
                        cases this
                      | some u2 =>
                        have := A.f a u2 e6
                        rw [h3] at this
                        cases this
                        have eL := shown_list e6
                        subst eL
                        have e7 := le _ _ e6
                        rw [hL2] at e7
                        cases e7
                        exfalso
                        rw [List.all_cons, Bool.and_eq_true] at ht
                        generalize e1.row.xs = is at h4
                        cases is with
                        | nil => cases h4
                        | cons i is =>
                          cases h4 with
                          | cons q1 q2 =>
                            cases q1
                            exact absurd ht.1 (by simp [D.isStr])
                  obtain ⟨L', g1, g2⟩ := A.row
                  have hL' : L' ≠ a := fun z => by
                    rw [z, h3] at g2
                    cases g2
                    rw [List.all_cons, Bool.and_eq_true] at ht
                    generalize row'.xs = is at h4
                    cases is with
                    | nil => cases h4
                    | cons i is =>
                      cases h4 with
                      | cons q1 q2 =>
                        cases q1
                        exact absurd ht.1 (by simp [D.isStr])
                  obtain ⟨R2, sm⟩ := R1.afterNew le A ⟨L', g1, g2, hL'⟩ hna
                  have hka : HK.h a = none := R1.kh.free hna
                  have hra : a ≠ ra := fun z => R1.ra_some (z ▸ hna)
                  refine h1 (.ref a) _ H' (s1.trans sm) R2 ⟨a, rfl, ⟨us, A.fh _ _ h3, texts_any h4 ht⟩, if_pos rfl, hka, hra, ?_⟩
                  intro i sl b e7 e8 e9 hf
                  have ft : ∀ {p : Addr}, Foot H1 sl b p → F1 p = none ∧ HK.h p = none ∧ p ≠ ra ∧ H1 p ≠ none := fun h => R1.foot (i := i) e7 e8 e9 h
                  have kb : H' b = H1 b := by
                    have g0 := ft (p := b) (.inl rfl)
                    cases ez : H1 b with
                    | none => exact absurd ez g0.2.2.2
                    | some u => exact A.kept b u ez g0.2.2.1
                  exact (ft ((Foot.congr kb).mp hf)).2.2.2 hna
              · simp only [newTexts, if_neg ht] at h1
                exact h1.elim
          | _ => exact h1.elim
    · rw [if_neg hk] at h1
      exact h1.elim
theorem pmo_callO (F : Fn X.prog X.w X.K X.mg X.base x k n g) (hr : Room k' X.A) (tk : Takes X W) (ha : PMA X W (e :: es) r) (hn : ∀ e ds e', r e = .ok ds e' → ds.length = n) (hk : k ≤ k' := by decide) (hg : Gl X x := by rfl)
    (hdb : (x == ("__debug__" : Str)) = false := by decide) (he : starEach (e :: es) X.env = (false, eval e X.env) :: starEach es X.env := by rfl) (hpl : (backTo pos (starEach es X.env)).any (·.1) = false := by rfl) : PMO X W (.Call (.Name x p) (e :: es) [] pos) (callO g r) := by
  obtain ⟨f, fd, ps, F1, hm, kp, hb⟩ := F.ex
  exact PE.weaken (pe_callS F1 (hr.mono hk) hg hm kp hb (fun σ => passAt tk σ) ha hdb he hpl) fun σ H Q h => callO_read h hn
end
end Mi

set_option Elab.async false
set_option linter.all false
set_option maxRecDepth 100000
set_option maxHeartbeats 4000000
/-! Mi, part M23: three and four names at once, where a name is read from inside or there are four. -/
namespace Mi
open PySem PySem.Spec PyProof.Rows L2
section
variable {X : Cx} {W : WX} {r : M (List Slot)}
end
end Mi

set_option Elab.async false
set_option linter.all false
set_option maxRecDepth 100000
set_option maxHeartbeats 4000000
/-! Mi, part M24: max of a tuple of whole numbers. -/
namespace Mi
open PySem PySem.Spec PyProof.Rows L2
section
variable {X : Cx} {W : WX} {a : Expr} {ma : M Ref} {pos : Pos}
end
end Mi

set_option Elab.async false
set_option linter.all false
set_option maxRecDepth 100000
set_option maxHeartbeats 4000000
/-! Mi, part M39: a list comprehension whose element may raise. -/
namespace Mi
open PySem PySem.Spec PyProof.Rows L2
theorem noteFrame_as {e : Value} {env env' : PySem.Env} (h : env.frame = env'.frame) : noteFrame e env = noteFrame e env' := by
  unfold noteFrame PySem.frameOf
  rw [h]
section
variable {M : Model} {A : Around} {E : Value → Shared → Prop} {s : Shared} {env : PySem.Env}
/-- what is to be when a block ends; cenv is the block's own -/
def blkPost (M : Model) (A : Around) (E : Value → Shared → Prop) (Q : Value → Shared → Prop) (acc : Value) (cenv : PySem.Env) (r : Result) (s' : Shared) : Prop := match r with
  | .ok _ => ∃ m, s'.heap.Ns cenv.locals m ∧ ∀ h', Heap.SameBut cenv.locals s'.heap h' → Q acc { s' with heap := h' }
  | .error x => ∃ m, s'.heap.Ns cenv.locals m ∧ ∀ h', Heap.SameBut cenv.locals s'.heap h' → wpAny M A (passOn "comprehension.variables-let-go" x cenv : Sem Value) (fun _ _ => False) E { s' with heap := h' }
theorem block_whole {e : Expr} {scope : Scope} {pos : Pos} {newAcc first : Sem Value} {g : Comprehension} {gs : List Comprehension} {cl : List (Str × Addr)} {Q : Value → Shared → Prop}
    (hcl : clausesOf e = g :: gs) (hs : ∀ x, foldedSetIterable g.iter env x = pure x) (hclos : closureFor scope env = pure cl) (hkind : scope.kind = .function) (hnames : ∀ x ∈ scope.names, x.2 = .local → scope.names.lookup x.1 = some .local)
    (h : wpAny M A first (fun x s₁ => wpAny M A (pyIter x) (fun it s₂ => wpAny M A newAcc (fun acc s₃ =>
      wpAny M A (newFunctionEnv scope env.globals cl [] env.qual none .none (some env)) (fun cenv s₄ =>
        codeAny M A (.compStart e 0 it acc { cenv with scope := relabel scope env }) (blkPost M A E Q acc { cenv with scope := relabel scope env }) s₄) E s₃) E s₂) E s₁) E s) :
    wpAny M A (comprehension e scope env pos newAcc false first none) Q E s := by
  unfold comprehension
  rw [hclos, hcl]
  refine wpAny_bind (wpAny_mono h (fun x s₁ h₁ => wpAny_bind (wpAny_standAt (wpAny_bind (wpAny_of_eq (hs x) (wpAny_bind (wpAny_holding (wpAny_mono h₁ (fun it s₂ h₂ =>
    wpAny_standIf (wpAny_bind (wpAny_mono h₂ (fun acc s₃ h₃ => wpAny_bind (wpAny_pure (wpAny_bind (wpAny_mono h₃ (fun cenv s₄ h₄ => ?_) fun _ _ h' => h')))) fun _ _ h' => h')))
      fun _ _ h' => h'))))))) fun _ _ h' => h')
  dsimp only
  have hv : ∀ x ∈ (scope.names.filter fun x => (x.2 == .local || x.2 == .cell) && x.1 != (".0" : Str)).reverse, x.2 = .local →
      Env.kindOf { cenv with scope := relabel scope env } x.1 = some .local := fun x hx hl => lookup_relabel_local (hnames x (List.mem_filter.mp (List.mem_reverse.mp hx)).1 hl)
  refine wpAny_holding (wpAny_bind (wpAny_attempt (wpAny_holding (wpAny_run (codeAny_mono h₄ fun r s' hr => ?_)))))
  cases r with
  | ok f =>
    obtain ⟨m, hn, hr⟩ := hr
    exact wpAny_bind (wpAny_holding (wpAny_comp_letGo (cenv := { cenv with scope := relabel scope env }) hkind _ s' m hv hn fun h' m' _ hs' => wpAny_pure (hr h' hs')))
  | error x =>
    obtain ⟨m, hn, hr⟩ := hr
    exact wpAny_bind (wpAny_holding (wpAny_comp_letGo (cenv := { cenv with scope := relabel scope env }) hkind _ s' m hv hn fun h' m' _ hs' => wpAny_mono (hr h' hs') (fun _ _ f => f.elim) fun _ _ y => y))
end
section
variable {X : Cx} {pins : List (Addr × Obj)} {σ : L2.St} {H : Hp} {s : Shared}
/-- the heap read without a thing that nobody tracks -/
theorem without {C : Addr} (I : Inv X pins σ H s) (f : FpOk X pins H C) : ∃ G : Heap, (∀ b o, G.get? b = some o → s.heap.get? b = some o) ∧ G.get? C = none ∧ (∀ b o, b ≠ C → s.heap.get? b = some o → G.get? b = some o) ∧ Inv X pins σ H { s with heap := G } := by
  obtain ⟨f0, f1, f2, f3, f4, f5⟩ := f
  obtain ⟨G, g1, g2⟩ := restrict s.heap fun b => decide (b ≠ C)
  have gk : ∀ b o, b ≠ C → s.heap.get? b = some o → G.get? b = some o := fun b o hb e => by
    rw [g1 b (decide_eq_true hb)]
    exact e
  have ga : G.get? C = none := g2 C (decide_eq_false fun z => z rfl)
  have gs : ∀ b o, G.get? b = some o → s.heap.get? b = some o := fun b o e => by
    by_cases hb : b = C
    · rw [hb, ga] at e
      cases e
    · rw [← g1 b (decide_eq_true hb)]
      exact e
  have ne0 : ∀ b o, X.s_0.heap.get? b = some o → b ∉ X.ex → b ≠ C := fun b o e hx z => by
    rw [z] at e hx
    rcases f3 with q | q
    · exact hx q
    · exact absurd (Nat.lt_of_lt_of_le (Heap.lt_size e) q) (Nat.lt_irrefl _)
  have neH : ∀ b u, H b = some u → b ≠ C := fun b u e z => by
    rw [z, f0] at e
    cases e
  have cellK : ∀ x c, X.env.cells.lookup x = some c → ∀ v, s.heap.IsCell c v → G.IsCell c v := fun x c e v ⟨o, ho, hd⟩ => ⟨o, gk c o (f4 x c e) ho, hd⟩
  refine ⟨G, gs, ga, gk, ⟨I.ok, I.os, I.bare, ⟨fun b o e n hb hq => gk b o (ne0 b o e hq) (I.base.keep b o e n hb hq), fun b o e n hb hq => ?_, I.base.free, fun b o e hq => ?_, I.base.tups, I.base.frzs, I.base.tbls⟩, ?_, fun x c e => ?_, I.free, I.freeC, fun p hp => ?_, fun b u e => ?_, I.len⟩⟩
  · obtain ⟨sl, q⟩ := I.base.slot b o e n hb hq
    exact ⟨sl, gk b _ (ne0 b o e hq) q⟩
  · obtain ⟨o', q⟩ := I.base.there b o e hq
    exact ⟨o', gk b o' (ne0 b o e hq) q⟩
  · obtain ⟨m, ⟨o, es, ep, ho, r⟩, hl⟩ := I.loc
    refine ⟨m, ⟨o, es, ep, gk _ _ (Ne.symm f1) ho, r⟩, fun i x v e1 e2 e3 => ?_⟩
    obtain ⟨u, r', l⟩ := hl i x v e1 e2 e3
    refine ⟨u, r', ?_⟩
    rcases l with l | ⟨k, c, ec, z⟩
    · exact .inl l
    · exact .inr ⟨k, c, ec, cellK x c ec _ z⟩
  · obtain ⟨v, z⟩ := I.cell x c e
    exact ⟨v, cellK x c e v z⟩
  · obtain ⟨e, n, ne, nf, d⟩ := I.pin p hp
    exact ⟨gk _ _ (f5 p hp) e, n, ne, nf, d⟩
  · refine (I.hok b u e).stay (fun c v hc q => gk c v ?_ q) (fun c q => q) fun c xs q => q
    rcases hc with z | z
    · rw [z]
      exact neH b u e
    · exact neH _ _ z
end
section
variable {M : Model} {A : Around} {E : Value → Shared → Prop} {s : Shared} {Z : Obj → Prop} {base : Heap} {env : PySem.Env} {outer : List PySem.Env} {L C e : Addr}
/-- noted, whatever held it -/
theorem look_any {Q : Unit → Shared → Prop} (hZ : HandSPX.Steady Z) (hfr : A.frames = some (env :: outer)) (hf : env.frame = some L) (hCL : C ≠ L) (x : Sky base (env :: outer) e Z C s.heap)
    (hQ : ∀ h', HandSPX.HeldZ base (env :: outer) e Z L h' → s.heap.UpToSlots h' → Q () { s with heap := h' }) : wpAny M A (noteFrame (.ref e) env) Q E s := by
  rcases x with ⟨hB, hn, hl, oe, vs, he, hz, hd, h1⟩ | fl | hh
  · exact HandSPX.look_newZ hZ hfr hl hf he hB hn hd h1 hz hQ
  · exact HandSPX.looks_onZ hZ hfr hf fl hQ
  · obtain ⟨hkb, hen, hl, oe, vs, T, oT, ts, he, hz, hd, h1, hnT, hTe, hT, hdT, h3⟩ := hh
    unfold noteFrame
    simp only [hf]
    refine wpAny_bind (wpAny_field he hd h1 ?_)
    rw [if_pos (show (Value.ref T != Value.none) = true from by simp)]
    refine wpAny_bind (wpAny_field hT hdT h3 ?_)
    rw [if_neg (show ¬ ((rawInt C == rawInt L) = true) from fun z => hCL (Int.ofNat.inj (by simpa [rawInt] using z)))]
    refine wpAny_bind (wpAny_setField hT hdT (Array.getElem?_eq_some_iff.mp h3).1 ?_)
    have other : ∀ b, b ≠ T → (s.heap.update T (Obj.mapFields (·.setIfInBounds 3 Value.none))).get? b = s.heap.get? b := fun b hb => Heap.get?_update_other _ _ (Ne.symm hb)
    have noRecord : ∀ b o, s.heap.get? b = some o → (∀ vs, o.data ≠ .fields vs) → b ≠ T := fun b o hb hnf q => by
      rw [q, hT] at hb; injection hb with hb; subst hb; exact hnf ts hdT
    refine HandSPX.wpAny_entryZ hZ hfr (hl.of_keeps fun b o hb hnf => ⟨o, (other b (noRecord b o hb hnf)).trans hb, rfl⟩) hf ((other e (Ne.symm hTe)).trans he)
      (fun b o hbo => (other b fun q => by rw [q, hnT] at hbo; cases hbo).trans (hkb b o hbo)) hen hd (Array.getElem?_eq_some_iff.mp h1).1 hz fun h' hN => ?_
    obtain ⟨x1, x2, x3, x4⟩ := hN
    exact hQ h' ⟨x1, hen, x2, x3⟩ fun b o hb hnf => x4 b o ((other b (noRecord b o hb hnf)).trans hb) hnf
end
/-- the context of a block whose element may raise -/
abbrev blkX (X : Cx) (s : Shared) (H : Hp) (scope : Scope) (cenv : PySem.Env) (fp : List Addr) (xe : Value → Shared → Prop) : Cx := { X with s_0 := s, H_0 := H, env := cenv, outer := X.stack, ex := fp, fn := fun x => scope.names.lookup x == some .cell, pn := [], xe := xe }
section
variable {X : Cx} {pins : List (Addr × Obj)} {σ : L2.St} {H : Hp} {s s1 : Shared} {H1 : Hp} {scope : Scope} {cenv : PySem.Env} {fp : List Addr} {xe : Value → Shared → Prop}
theorem okX (ok : (X.blk s1 H1 scope cenv fp).Ok) (xe : Value → Shared → Prop) : (blkX X s1 H1 scope cenv fp xe).Ok :=
  ⟨ok.mod, ok.kind, ok.glob, ok.blt, ok.above, ok.inj, ok.has, ok.cab, ok.hd, ok.frames, ok.stk, ok.exf, ok.bs, ok.bsz, ok.noex, ok.exfs, ok.funs, ok.frf⟩
theorem okB (ok : (blkX X s1 H1 scope cenv fp xe).Ok) : (X.blk s1 H1 scope cenv fp).Ok :=
  ⟨ok.mod, ok.kind, ok.glob, ok.blt, ok.above, ok.inj, ok.has, ok.cab, ok.hd, ok.frames, ok.stk, ok.exf, ok.bs, ok.bsz, ok.noex, ok.exfs, ok.funs, ok.frf⟩
theorem invX (I : Inv (X.blk s1 H1 scope cenv fp) pins σ H s) (xe : Value → Shared → Prop) : Inv (blkX X s1 H1 scope cenv fp xe) pins σ H s :=
  ⟨okX I.ok xe, I.os, I.bare, I.base, I.loc, I.cell, I.free, I.freeC, I.pin, I.hok, I.len⟩
theorem invB (I : Inv (blkX X s1 H1 scope cenv fp xe) pins σ H s) : Inv (X.blk s1 H1 scope cenv fp) pins σ H s :=
  ⟨okB I.ok, I.os, I.bare, I.base, I.loc, I.cell, I.free, I.freeC, I.pin, I.hok, I.len⟩
end
/-- [elt for target in iter if ..], the element may raise what the def takes -/
def tLcX (wi : TI) (g : TG) (tt : TT) (te : WX → TE) (Wo : WX) (vs : List Nat) : TE := fun σ H Q => wi σ H fun J H1 => ∀ D, H1 D = none → ∃ W : Nat → Nat → Hp → Prop, (∃ m, W 0 m (upd H1 D (.lst []))) ∧ ∀ i m H, W i m H →
  (J.stop i H ∧ Q (.ref D) H) ∨ (J.go i H ∧ ∃ Nx : Hp → Prop, (∀ H', Nx H' → ∃ m', m' < m ∧ W (i + 1) m' H') ∧ ∀ x H', J.yld i H x H' → g x (wipe σ vs) H' fun σ2 H2 => wipe σ2 vs = wipe σ vs ∧ tt σ2 H2 fun b H3 =>
    if b = true then te (fun cls d _ H => Wo cls d σ H) σ2 H3 fun y H4 => ∃ acc, H4 D = some (.lst acc) ∧ acc.length < sizeLine ∧ Nx (upd H4 D (.lst (acc ++ [y]))) else Nx H3)
section
variable {X : Cx}
theorem lcX_core {pins : List (Addr × Obj)} {s : Shared} {σ : L2.St} {H : Hp} {Q : VK} {elt tg iter : Expr} {ifs : List Expr} {scope : Scope} {own : List (Str × Nat)} {pos pos' : Pos} {wi : TI} {g : TG} {tt : TT} {te : WX → TE} {Wo : WX}
    (hst : X.stack = X.env :: X.outer) (hf : X.env.frame = some X.env.locals) (tk : Takes X Wo)
    (hc : X.calm = true) (hN : X.N.Nodup) (I : Inv X pins σ H s) (hi : PI X tg iter wi) (ok : BlkOk X.N X.env.scope scope own)
    (hg : ∀ (s : Shared) (H : Hp) (C : Addr) (cl : List (Str × Addr)) (fp : List Addr), PG (X.blk s H scope (compEnvC scope cl C X.env) fp) tg g) (ht : ∀ (s : Shared) (H : Hp) (C : Addr) (cl : List (Str × Addr)) (fp : List Addr), PTs (X.blk s H scope (compEnvC scope cl C X.env) fp) ifs tt)
    (he : ∀ (W : WX) (s : Shared) (H : Hp) (C : Addr) (cl : List (Str × Addr)) (fp : List Addr) (xe : Value → Shared → Prop), Takes (blkX X s H scope (compEnvC scope cl C X.env) fp xe) W → PE (blkX X s H scope (compEnvC scope cl C X.env) fp xe) elt (te W)) (hs : ∀ x, foldedSetIterable iter X.env x = pure x)
    (h : tLcX wi g tt te Wo (own.map (·.2)) σ H Q) :
    wpAny (model X.prog X.w) X.A (comprehension (.ListComp elt [⟨tg, iter, ifs, 0⟩] scope pos) scope X.env pos' (newList []) false (eval iter X.env) none) (EP X pins σ Q) X.xe s := by
  have hfree : ∀ y ∈ scope.names, y.2 = .free → ∃ c, X.env.cells.lookup y.1 = some c := fun y hy e => by
    rcases ok.free y hy e with k | k
    · exact I.ok.has _ (.inl k)
    · exact I.ok.has _ (.inr k)
  have hfr : X.A.frames = some (X.env :: X.outer) := by rw [I.ok.frames, hst]
  refine block_whole rfl hs (closure_ok hfree) ok.kind (fun y hy e => by rw [ok.uniq y hy, e])
    (thn (hi.run pins s σ H _ I h) fun xv s1 hx => thn hx fun itv s2 h2 => ?_)
  obtain ⟨it, fp, tn, J, H2, e, I2, T, st2, f2, q⟩ := h2
  subst e
  refine wpAny_newObj_type (newEnv_comp ?_) (by show 0 ≤ sizeLine; decide)
  generalize hD : s2.heap.objs.size = D
  have hDn : H2 D = none := I2.hok.fresh (Nat.le_of_eq hD)
  obtain ⟨W, ⟨m0, w0⟩, turn⟩ := q D hDn
  generalize hs3 : ({ s2 with heap := s2.heap.push { cls := .type "list", data := .seq ([] : List Value).toArray } } : Shared) = s3
  have I3 : Inv X pins σ (upd H2 D (.lst [])) s3 := by
    rw [← hs3]
    refine I2.laid (t' := s2.toks) (fun b o e => Heap.get?_push_of_some _ e) (Nat.le_of_eq hD) ⟨Nat.zero_le _, [], 0, .nil, ?_⟩
    rw [← hD]
    exact Heap.get?_push_size _ rfl
  have h3 : s3.heap = s2.heap.push { cls := .type "list", data := .seq ([] : List Value).toArray } := by rw [← hs3]
  have sz : ∀ b ∈ fp, b < s2.heap.objs.size := fun b hb => by
    obtain ⟨o, e, _⟩ := T.obj _ _ st2 b hb
    exact Heap.lt_size e
  have f3 : ∀ b ∈ fp, FpOk X pins (upd H2 D (.lst [])) b ∧ b < s3.heap.objs.size := fun b hb => by
    have hlt := sz b hb
    refine ⟨⟨?_, (f2 b hb).2⟩, by rw [h3, Heap.size_push]; exact Nat.lt_succ_of_lt hlt⟩
    rw [upd_ne (by rw [← hD]; exact Nat.ne_of_lt hlt)]
    exact (f2 b hb).1
  have st3 : tn 0 s3.heap := T.keep _ _ _ st2 fun b _ o e => by rw [h3]; exact Heap.get?_push_of_some _ e
  have I4 := block_start I3 ok hN f3
  have pg := hg s3 (upd H2 D (.lst [])) s3.heap.objs.size (cellsFrom (s3.heap.objs.size + 1) scope.names (cloFrom X.env.cells scope.names [])) fp
  have pt := ht s3 (upd H2 D (.lst [])) s3.heap.objs.size (cellsFrom (s3.heap.objs.size + 1) scope.names (cloFrom X.env.cells scope.names [])) fp
  have pe := fun W => he W s3 (upd H2 D (.lst [])) s3.heap.objs.size (cellsFrom (s3.heap.objs.size + 1) scope.names (cloFrom X.env.cells scope.names [])) fp
  show codeAny _ _ (.compStart (.ListComp elt [⟨tg, iter, ifs, 0⟩] scope pos) 0 (.ref it) (.ref D) (compEnvC scope (cellsFrom (s3.heap.objs.size + 1) scope.names (cloFrom X.env.cells scope.names [])) s3.heap.objs.size X.env)) (blkPost (model X.prog X.w) X.A X.xe (EP X pins σ Q) (.ref D) (compEnvC scope (cellsFrom (s3.heap.objs.size + 1) scope.names (cloFrom X.env.cells scope.names [])) s3.heap.objs.size X.env)) { s3 with heap := pushCells (s3.heap.push { cls := .type "dict", data := .dict #[] }) scope.names }
  have nfp : ∀ b ∈ fp, (upd H2 D (.lst [])) b = none := fun b hb => (f3 b hb).1.1
  generalize hce : compEnvC scope (cellsFrom (s3.heap.objs.size + 1) scope.names (cloFrom X.env.cells scope.names [])) s3.heap.objs.size X.env = ce at I4 pg pt pe ⊢
  have cL : ce.locals = s3.heap.objs.size := by subst hce; rfl
  have cF : ce.frame = X.env.frame := by subst hce; rfl
  generalize hH3 : upd H2 D (.lst []) = H3 at I3 I4 pg pt pe w0 nfp f3
  generalize hs4 : ({ s3 with heap := pushCells (s3.heap.push { cls := .type "dict", data := .dict #[] }) scope.names } : Shared) = s4 at I4 ⊢
  have st4 : tn 0 s4.heap := T.keep _ _ _ st3 fun b _ o e => by rw [← hs4]; exact pushCells_keeps _ _ _ _ (Heap.get?_push_of_some _ e)
  have stat : ∀ {σ' : L2.St} {H' : Hp} {s' : Shared}, Inv (X.blk s3 H3 scope ce fp) [] σ' H' s' → (∀ b ∈ fp, H' b = none) → ∀ b ∈ fp, FpOk (X.blk s3 H3 scope ce fp) [] H' b := fun {σ' H' s'} I' hn b hb =>
    ⟨hn b hb, (I'.ok.exf b hb).1, I'.ok.exfs b hb, .inl hb, fun x c e => (I'.ok.exf b hb).2 x c e, fun p hp => absurd (show p ∈ ([] : List (Addr × Obj)) ++ [] from hp) (by simp)⟩
  have fch : ∀ b ∈ fp, (b ∈ X.ex ∨ X.s_0.heap.objs.size ≤ b) ∧ b ≠ X.env.locals ∧ (∀ x c, X.env.cells.lookup x = some c → c ≠ b) ∧ ∀ p ∈ X.pn ++ pins, p.1 ≠ b := fun b hb => ⟨(f3 b hb).1.2.2.2.1, (f3 b hb).1.2.1, (f3 b hb).1.2.2.2.2.1, (f3 b hb).1.2.2.2.2.2⟩
  have cNe : ce.locals ≠ X.env.locals := by
    rw [cL]
    exact Nat.ne_of_gt I3.lt
  -- what an exception of the element becomes
  generalize hxe : (notedBy (model X.prog X.w) X.A ce fun e s' => blkPost (model X.prog X.w) X.A X.xe (EP X pins σ Q) (.ref D) ce (.error e) s') = xe
  have tk2 : Takes (blkX X s3 H3 scope ce fp xe) (fun cls d _ H => Wo cls d σ H) := by
    rintro u s5 ⟨a, B, sI, pins', σ', H', cls, d, rfl, J, nb, up, sky, na, os, ag, w⟩
    have nb : ∀ b o, sI.heap.get? b = some o → b ∉ frs (X.env :: X.outer) → B.get? b = some o := by rw [← hst]; exact nb
    have sky' : Sky B (X.env :: X.outer) a (Zc cls d) ce.locals s5.heap := by rw [← hst]; exact sky
    show xe (.ref a) s5
    rw [← hxe]
    show wpAny _ X.A (noteFrame (.ref a) ce) _ _ _
    rw [noteFrame_as (env' := X.env) cF]
    refine look_any Zc.steady hfr hf cNe sky' fun h1 hh1 up1 => ?_
    have J0 : Inv (X.blk s3 H3 scope ce fp) pins' σ' H' sI := invB J
    have I7 : Inv X pins σ H' sI := I3.call' (ch := fp) J0.os J0.base J0.hok J0.bare fch
    have J1 : Inv (blkX X s3 H3 scope ce fp xe) pins' σ' H' { s5 with heap := h1 } := J.landed (by rw [hst]; exact nb) hh1.1 (up.trans up1) os ag
    have nC : H' ce.locals = none := J0.free
    have fC : FpOk X pins H' ce.locals := by
      rw [cL] at nC ⊢
      exact I3.fpOk (Nat.le_refl _) nC
    obtain ⟨m, hn, _⟩ := J1.loc
    have hn : h1.Ns ce.locals m := hn
    refine ⟨m, hn, fun h2 sb => ?_⟩
    obtain ⟨G, gs, ga, gk, I8⟩ := without I7 fC
    obtain ⟨B', b1, b2⟩ := restrict B fun b => decide (b ≠ ce.locals)
    have bs : ∀ b o, B'.get? b = some o → B.get? b = some o ∧ b ≠ ce.locals := fun b o e => by
      by_cases hb : b = ce.locals
      · rw [b2 b (decide_eq_false fun z => z hb)] at e
        cases e
      · exact ⟨by rw [← b1 b (decide_eq_true hb)]; exact e, hb⟩
    obtain ⟨k1, k2, k3, oe, vs, T1, oT, ts, hge, hz, hd, h1v, hnT, hTe, hT, hdT, h3v⟩ := hh1
    obtain ⟨oC, esC, epC, hoC, rC⟩ := id hn
    have dC : ∀ vs, oC.data ≠ .fields vs := fun vs z => by
      rw [rC.1] at z
      cases z
    have aC : a ≠ ce.locals := fun z => by
      rw [z, hoC] at hge
      cases hge
      exact dC _ hd
    have tC' : T1 ≠ ce.locals := fun z => by
      rw [z, hoC] at hT
      cases hT
      exact dC _ hdT
    have hh2 : HandSPX.HeldZ B' (X.env :: X.outer) a (Zc cls d) X.env.locals h2 := by
      refine ⟨fun b o e => ?_, ?_, ?_, oe, vs, T1, oT, ts, (sb.2 a aC).trans hge, hz, hd, h1v, ?_, hTe, (sb.2 T1 tC').trans hT, hdT, h3v⟩
      · obtain ⟨e1, e2⟩ := bs b o e
        exact (sb.2 b e2).trans (k1 b o e1)
      · rw [b1 a (decide_eq_true aC)]
        exact k2
      · have key : ∀ l : List PySem.Env, (∀ b ∈ frs l, b ≠ ce.locals) → h1.FunFrames B l → h2.FunFrames B' l := by
          intro l
          induction l with
          | nil => exact fun _ _ => trivial
          | cons en l ih =>
            rintro hne ⟨g1, ⟨L, o, e1, e2, e3, e4⟩, g2⟩
            have hL : L ≠ ce.locals := hne L (List.mem_filterMap.mpr ⟨en, List.mem_cons_self, e1⟩)
            refine ⟨g1, ⟨L, o, e1, by rw [b1 L (decide_eq_true hL)]; exact e2, (sb.2 L hL).trans e3, e4⟩, ih (fun b hb => hne b ?_) g2⟩
            obtain ⟨en', h1', h2'⟩ := List.mem_filterMap.mp hb
            exact List.mem_filterMap.mpr ⟨en', List.mem_cons_of_mem _ h1', h2'⟩
        refine key _ (fun b hb z => ?_) k3
        have := I7.stkSub b (by rw [hst]; exact hb)
        rcases List.mem_cons.mp this with y | y
        · exact fC.2.1 (z ▸ y)
        · exact fC.2.2.1 (z ▸ y)
      · rw [b1 T1 (decide_eq_true tC')]
        exact hnT
    unfold PySem.passOn
    obtain ⟨_, _, _, oe2, vs2, T2, oT2, ts2, hge2, hz2, hd2, h1v2, _⟩ := id hh2
    refine wpAny_bind (wpAny_field hge2 hd2 h1v2 ?_)
    rw [if_neg (show ¬ ((Value.ref T2 == Value.none) = true) from by simp)]
    have fin : wpAny (model X.prog X.w) X.A (setFlight (.ref a) ce.frame) (fun _ s6 => wpAny (model X.prog X.w) X.A (throw (.ref a) : Sem Value) (fun _ _ => False) X.xe s6) X.xe { s5 with heap := h2 } := by
      rw [cF, hf]
      refine HandSPX.setFlight_onZ hh2 fun h4 hh4 up4 => wpAny_throw (tk _ _ ?_)
      refine ⟨a, B', { sI with heap := G }, pins, σ, H', cls, d, rfl, I8, fun b o e hb => ?_, fun b o e hnf => ?_, .inr (.inr (by rw [hst]; exact hh4)), na, os, ag, w⟩
      · have hbC : b ≠ ce.locals := fun z => by
          have e : G.get? b = some o := e
          rw [z, ga] at e
          cases e
        rw [b1 b (decide_eq_true hbC)]
        exact nb b o (gs b o e) (by rw [← hst]; exact hb)
      · have e : G.get? b = some o := e
        have hbC : b ≠ ce.locals := fun z => by
          rw [z, ga] at e
          cases e
        obtain ⟨sl1, e1⟩ := up b o (gs b o e) hnf
        obtain ⟨sl2, e2⟩ := up1 b _ e1 hnf
        have e3 : h2.get? b = some _ := (sb.2 b hbC).trans e2
        obtain ⟨sl3, e4⟩ := up4 b _ e3 hnf
        exact ⟨sl3, e4⟩
    first
      | exact wpAny_bind (wpAny_pure (wpAny_bind fin))
      | exact wpAny_bind fin
  have loop : codeAny (model X.prog X.w) X.A (.compLoop (.ListComp elt [⟨tg, iter, ifs, 0⟩] scope pos) 0 (.ref it) (.ref D) ce) (blkPost (model X.prog X.w) X.A X.xe (EP X pins σ Q) (.ref D) ce) s4 := by
    refine compLoop_any (fun n s' => ∃ i H', Inv (X.blk s3 H3 scope ce fp) [] (wipe σ (own.map (·.2))) H' s' ∧ tn i s'.heap ∧ (∀ b ∈ fp, H' b = none) ∧ W i n H') ?_ m0 ⟨0, H3, I4, st4, nfp, w0⟩
    rintro n s5 ⟨i, H5, I5, st5, n5, w5⟩
    rcases turn i n H5 w5 with ⟨stop, qq⟩ | ⟨go, Nx, hNx, step⟩
    · have td := T.done (X.blk s3 H3 scope ce fp) rfl rfl rfl hc i [] s5 _ H5 (fun _ _ => False) I5 (stat I5 n5) st5 stop
      refine thnF td fun r s6 ⟨hr, I6⟩ => ?_
      subst hr
      have I7 : Inv X pins σ H5 s6 := I3.call' (ch := fp) I6.os I6.base I6.hok I6.bare fch
      have nC : H5 s3.heap.objs.size = none := by
        have z : H5 ce.locals = none := I6.free
        rw [cL] at z
        exact z
      obtain ⟨m, hn, _⟩ := I6.loc
      have hn : s6.heap.Ns ce.locals m := hn
      obtain ⟨f0, f1, f2', f3', f4, f5⟩ := I3.fpOk (Nat.le_refl _) nC
      refine ⟨m, hn, fun h'' sb => ?_⟩
      rw [cL] at sb
      exact ⟨.ref D, H5, I7.turned (t' := s6.toks) (fun b o hb e => (sb.2 b hb).trans e) f0 f1 f3' f4 f5, rfl, qq⟩
    · have ti := T.item (X.blk s3 H3 scope ce fp) rfl rfl rfl hc i [] s5 _ H5 (fun _ _ => False) I5 (stat I5 n5) st5 go
      refine thnF ti fun r s6 ⟨u, hr, h6⟩ => ?_
      subst hr
      refine thnF h6 fun _ s7 ⟨x, H7, I7, r7, y7, st7, n7⟩ => ?_
      have I7' := I7.pinned (stat I7 n7) (T.obj _ _ st7)
      refine thnF (pg.run _ s7 _ H7 x u _ I7' r7 (step x H7 y7)) fun _ s8 ⟨σ8, H8, I8, hw8, q8⟩ => ?_
      refine thnF (pt.run _ s8 σ8 H8 _ I8 q8) fun b s9 ⟨H9, I9, q9⟩ => ?_
      have fin : ∀ {s' : Shared} {H' : Hp}, Inv (X.blk s3 H3 scope ce fp) ([] ++ pinsAt fp s7.heap) σ8 H' s' → Nx H' → ∃ m, m < n ∧ ∃ i H', Inv (X.blk s3 H3 scope ce fp) [] (wipe σ (own.map (·.2))) H' s' ∧ tn i s'.heap ∧ (∀ b ∈ fp, H' b = none) ∧ W i m H' := fun {s' H'} I' nx => by
        obtain ⟨m', hm, w'⟩ := hNx H' nx
        have pin' : ∀ b ∈ fp, ∀ o, s7.heap.get? b = some o → s'.heap.get? b = some o ∧ H' b = none := fun b hb o e =>
          let z := I'.pin (b, o) (List.mem_append_right _ (List.mem_append_right _ (mem_pinsAt hb e)))
          ⟨z.1, z.2.1⟩
        have hl : (wipe σ (own.map (·.2))).length = σ8.length := by rw [← hw8, wipe_length]
        refine ⟨m', hm, i + 1, H', (I'.unpinned (pins := [])).weak hl (fun j v e => ?_), T.keep _ _ _ st7 fun b hb o e => (pin' b hb o e).1, fun b hb => ?_, w'⟩
        · rw [← hw8] at e
          exact (wipe_some e).1
        · obtain ⟨o, e, _⟩ := T.obj _ _ st7 b hb
          exact (pin' b hb o e).2
      cases b with
      | false =>
        simp only [Bool.false_eq_true, if_false] at q9 ⊢
        exact fin I9 q9
      | true =>
        simp only [if_true] at q9 ⊢
        have r10 := (pe (fun cls d _ H => Wo cls d σ H) xe tk2).run _ s9 σ8 H9 _ (invX I9 xe) q9
        rw [hxe]
        refine thn r10 fun z s10 hz => ?_
        obtain ⟨yv, H10, I10, r10, acc, hD10, hz10, nx⟩ := hz
        exact app_ok (X := X.blk s3 H3 scope ce fp) (invB I10) hD10 hz10 r10 fun s11 I11 => fin I11 nx
  exact codeAny_compStart_list loop (T.self X.A 0 _ _ _ st4 loop)
end
end Mi

set_option Elab.async false
set_option linter.all false
set_option maxRecDepth 100000
set_option maxHeartbeats 4000000
/-! Mi, part M40: its mirror. -/
namespace Mi
open PySem PySem.Spec PyProof.Rows L2
def noCs (sl : List Slot) : Bool := sl.all fun s => !s.isC
/-- what raises answers none -/
def noX {α : Type} (m : M α) : M α := fun e => match m e with
  | .exc _ _ => .err
  | r => r
def lcGoX (g : D → M Unit) (t : M Bool) (el : M D) (vs : List Nat) : List D → List D → M (List D)
  | [], acc => pureM acc
  | d :: ds, acc => bindM (noX (g d)) fun _ => bindM (noX t) fun c => if c = true then bindM el fun y => bindM (small (acc ++ [y])) fun _ => fun e => lcGoX g t el vs ds (acc ++ [y]) (wipeE e vs) else fun e => lcGoX g t el vs ds acc (wipeE e vs)
def lcRunX (g : D → M Unit) (t : M Bool) (el : M D) (vs : List Nat) (ds : List D) : M OD := fun e => if (noOwn e.sl vs && noCs e.sl) = true then (match lcGoX g t el vs ds [] (wipeE e vs) with
  | .ok l e' => .ok (.lst l) (restE e' e vs)
  | .exc x e' => .exc x { e with row := e'.row }
  | .err => .err) else .err
def lcMX (mi : M (List D)) (g : D → M Unit) (t : M Bool) (el : M D) (vs : List Nat) : M OD := bindM mi (lcRunX g t el vs)
theorem wp_ok {α : Type} {a : α} {e : Env} {A : α → Env → Prop} {B : Exn → Env → Prop} (h : (Res.ok a e).wp A B) : A a e := h
theorem Rel.noC {w : World} {K : PySem.W.Frag} {ra : Addr} {HK HK' : Kp} {F F' H H' : Hp} {e e' : Env} {σ σ' : L2.St} (R : Rel w K ra HK F e σ H) (s : Same F F') (R' : Rel w K ra HK' F' e' σ' H') (hc : noCs e.sl = true) (hk : Same HK.h HK'.h) (hp : ∀ a, HK.pin a → HK'.pin a) : Rel w K ra HK F' { e with row := e'.row } σ H' := by
  have nC : ∀ {i : Nat} {t : Slot}, e.sl[i]? = some t → t.isC = false := fun {i t} h => by
    have := List.all_eq_true.mp hc t (List.mem_of_getElem? h)
    simpa using this
  refine ⟨R'.fh, fun b u q => R'.kh b u (hk b u q), R.len, fun i t h => ?_, fun i j t t' a a' p _ h _ c _ _ _ _ => ?_, R'.row, R'.fra, R.kra, fun a ha => ⟨(R.pn a ha).1, (R'.pn a (hp a ha)).2⟩⟩
  · exact (R.sl i t h).mono s fun q c => by
      rw [nC h] at c
      cases c
  · rw [nC h] at c
    cases c
theorem lc_readX {w : World} {K : PySem.W.Frag} {W : WX} {mi : M (List D)} {g : D → M Unit} {t : M Bool} {el : M D} {is vs : List Nat} (hsub : ∀ i ∈ is, i ∈ vs) {σ : L2.St} {H : Hp} {Q : VK} (h : tG TO w K W (lcMX mi g t el vs) σ H Q) :
    tLcX (tI w K W mi) (tT w K is g) (tG TB w K WN t) (fun W' => tG TV w K W' el) W vs σ H Q := by
  obtain ⟨ra, HK, F, e, R, h⟩ := h
  unfold lcMX at h
  refine ⟨ra, HK, F, e, R, wp_mono (wp_bind.mp h) (fun ds e1 q J F1 H1 s1 R1 ok => ?_) fun _ _ q => q⟩
  intro D hD
  unfold lcRunX at q
  by_cases hn' : (noOwn e1.sl vs && noCs e1.sl) = true
  · simp only [if_pos hn'] at q
    obtain ⟨hn, hnc⟩ := Bool.and_eq_true_iff.mp hn'
    have kD : HK.h D = none := R1.kh.free hD
    have hpn : ∀ a, HK.pin a → HK.h a ≠ none := fun a ha => (R1.pn a ha).1
    -- the rest of the run, and what it ends with
    refine ⟨fun i m H => m = ds.length - i ∧ i ≤ ds.length ∧ ∃ F2 e2 acc dacc, Same F1 F2 ∧ Rel w K ra (pinD HK D (.lst acc)) F2 e2 (wipe σ vs) H ∧ RepA w K ra F2 acc dacc ∧ dacc.length ≤ sizeLine ∧ Res.wp (lcGoX g t el vs (ds.drop i) dacc e2) (fun l e' => okG TO w K ra HK F σ Q (.lst l) (restE e' e1 vs)) (fun x e' => exW w K ra HK F W x { e1 with row := e'.row }),
      ⟨ds.length, rfl, Nat.zero_le _, F1, _, [], [], Same.refl F1, (R1.wipe vs).pinNew hD _, .nil, Nat.zero_le _, ?_⟩, ?_⟩
    · rw [List.drop_zero]
      cases eg : lcGoX g t el vs ds [] (wipeE e1 vs) with
      | err =>
        rw [eg] at q
        exact q.elim
      | exc x e' =>
        rw [eg] at q
        exact q
      | ok l e' =>
        rw [eg] at q
        exact q
    · rintro i m H2 ⟨rfl, hil, F2, e2, acc, dacc, s2, R2, ra2, hz2, h2⟩
      by_cases hlt : i < ds.length
      · refine .inr ⟨ok.go i F2 H2 s2 R2.fh hlt, fun H' => ∃ F2 e2 acc dacc, Same F1 F2 ∧ Rel w K ra (pinD HK D (.lst acc)) F2 e2 (wipe σ vs) H' ∧ RepA w K ra F2 acc dacc ∧ dacc.length ≤ sizeLine ∧ Res.wp (lcGoX g t el vs (ds.drop (i + 1)) dacc e2) (fun l e' => okG TO w K ra HK F σ Q (.lst l) (restE e' e1 vs)) (fun x e' => exW w K ra HK F W x { e1 with row := e'.row }),
          fun H' z => ⟨ds.length - (i + 1), by omega, rfl, hlt, z⟩, fun x H3 y => ?_⟩
        obtain ⟨d, F3, hd, s3, R3, r3⟩ := R2.turn ok s2 hlt y
        rw [drop_cons hd] at h2
        unfold lcGoX at h2
        have h2 := wp_bind.mp h2
        refine ⟨ra, _, F3, e2, d, R3, r3, ?_⟩
        unfold noX at h2
        cases eg2 : g d e2 with
        | err =>
          rw [eg2] at h2
          exact h2.elim
        | exc x e3 =>
          rw [eg2] at h2
          exact h2.elim
        | ok u e3 =>
          rw [eg2] at h2
          have h2 := wp_ok (show Res.wp (Res.ok u e3) _ _ from h2)
          intro σ4 F4 H4 b4 s4 R4
          have hw4 : wipe σ4 vs = wipe σ vs := by
            rw [b4.wiped hsub]
            apply List.ext_getElem?
            intro j
            by_cases c : j ∈ vs
            · have key : ∀ (τ : L2.St) (us : List Nat), j ∈ us → (wipe τ us)[j]? = if j < τ.length then some none else none := by
                intro τ us
                induction us with
                | nil => intro h; cases h
                | cons u us ih =>
                  intro hj
                  unfold L2.wipe
                  by_cases e : u = j
                  · subst e
                    by_cases l : u < τ.length
                    · rw [if_pos l, List.getElem?_set_self (by rw [wipe_length]; exact l)]
                    · rw [if_neg l, List.getElem?_eq_none (by rw [List.length_set, wipe_length]; omega)]
                  · rw [List.getElem?_set_ne e]
                    exact ih (by
                      rcases List.mem_cons.mp hj with z | z
                      · exact absurd z.symm e
                      · exact z)
              rw [key _ _ c, key _ _ c, wipe_length]
            · rw [wipe_out c]
          refine ⟨hw4, ra, _, F4, e3, R4, ?_⟩
          have sf4 := (s2.trans s3).trans s4
          have h2 := wp_bind.mp h2
          cases et : t e3 with
          | err =>
            rw [et] at h2
            exact h2.elim
          | exc x e5 =>
            rw [et] at h2
            exact h2.elim
          | ok c e5 =>
            rw [et] at h2
            have h2 := wp_ok (show Res.wp (Res.ok c e5) _ _ from h2)
            intro b F5 H5 s5 R5 hb
            have hb' : b = c := hb
            subst hb'
            cases b with
            | false =>
              simp only [Bool.false_eq_true, if_false] at h2 ⊢
              have R6 := R5.wipe vs
              rw [hw4] at R6
              exact ⟨F5, _, acc, dacc, sf4.trans s5, R6, ra2.mono ((s3.trans s4).trans s5), hz2, h2⟩
            | true =>
              simp only [if_true] at h2 ⊢
              refine ⟨ra, _, F5, e5, R5, ?_⟩
              have h2 := wp_bind.mp h2
              cases ee : el e5 with
              | err =>
                rw [ee] at h2
                exact h2.elim
              | exc x e6 =>
                rw [ee] at h2
                intro cls dd σ' F6 H6 s6 R6 hx
                have st := (sf4.trans s5).trans s6
                exact h2 cls dd σ F6 H6 (s1.trans st) (R1.noC st R6 hnc (fun b u q => by
                  show upd HK.h D _ b = _
                  rw [upd_ne (ne_of_none q kD)]
                  exact q) fun a ha => .inl ha) hx
              | ok y e6 =>
                rw [ee] at h2
                have h2 := wp_ok (show Res.wp (Res.ok y e6) _ _ from h2)
                intro yv F6 H6 s6 R6 ry
                have h2 := wp_bind.mp h2
                unfold small at h2
                by_cases hz : (dacc ++ [y]).length ≤ 1000000
                · simp only [if_pos hz] at h2
                  have st : Same F2 F6 := ((s3.trans s4).trans s5).trans s6
                  have rA : RepA w K ra F6 acc dacc := ra2.mono st
                  have hD6 : H6 D = some (.lst acc) := R6.kh D _ (by show upd HK.h D _ D = _; exact upd_same)
                  have l1 : acc.length < sizeLine := by
                    rw [rA.length]
                    rw [List.length_append] at hz
                    have : (1000000 : Nat) ≤ sizeLine := by decide
                    simp at hz
                    omega
                  have R7 := (R6.repin (u' := .lst (acc ++ [yv]))).wipe vs
                  rw [hw4] at R7
                  exact ⟨acc, hD6, l1, F6, _, acc ++ [yv], dacc ++ [y], (sf4.trans s5).trans s6, R7, rA.append (.cons ry .nil), Nat.le_trans hz (by decide), h2⟩
                · simp only [if_neg hz] at h2
                  exact h2.elim
      · have ei : i = ds.length := by omega
        subst ei
        rw [List.drop_length] at h2
        unfold lcGoX pureM at h2
        have h2 : okG TO w K ra HK F σ Q (.lst dacc) (restE e2 e1 vs) := h2
        obtain ⟨R3, fD, nD, hD2, nd⟩ := R2.unpin kD hpn
        refine .inl ⟨ok.stop _ F2 H2 s2 R2.fh rfl, ?_⟩
        have R4 := R3.rest R1 s2 hn
        exact h2 _ F2 H2 (s1.trans s2) R4 ⟨D, rfl, ⟨acc, hD2, ra2⟩, fD, kD, nD, notIn_rest nd hn⟩
  · simp only [if_neg hn'] at q
    exact q.elim
section
variable {X : Cx} {W : WX} {elt tg iter : Expr} {ifs : List Expr} {scope : Scope} {own : List (Str × Nat)} {pos : Pos} {mi : M (List D)} {g : D → M Unit} {t : M Bool} {el : M D} {is : List Nat}
theorem pmo_lcX (hst : X.stack = X.env :: X.outer) (hf : X.env.frame = some X.env.locals) (tk : Takes X W) (hi : PIM X W tg iter mi)
    (hg : ∀ (s : Shared) (H : Hp) (C : Addr) (cl : List (Str × Addr)) (fp : List Addr), PGM (X.blk s H scope (compEnvC scope cl C X.env) fp) tg is g) (ht : ∀ (s : Shared) (H : Hp) (C : Addr) (cl : List (Str × Addr)) (fp : List Addr), PMTs (X.blk s H scope (compEnvC scope cl C X.env) fp) WN ifs t)
    (he : ∀ (W' : WX) (s : Shared) (H : Hp) (C : Addr) (cl : List (Str × Addr)) (fp : List Addr) (xe : Value → Shared → Prop), Takes (blkX X s H scope (compEnvC scope cl C X.env) fp xe) W' → PM (blkX X s H scope (compEnvC scope cl C X.env) fp xe) W' elt el) (hc : X.calm = true) (hN : X.N.Nodup) (own : List (Str × Nat)) (ok : blkC X.N X.env.scope scope own = true := by rfl) (hsub : ∀ i ∈ is, i ∈ own.map (·.2) := by decide) (hs : ∀ x, foldedSetIterable iter X.env x = pure x := by intro _; rfl) :
    PMO X W (.ListComp elt [⟨tg, iter, ifs, 0⟩] scope pos) (lcMX mi g t el (own.map (·.2))) := by
  have pe : PE X (.ListComp elt [⟨tg, iter, ifs, 0⟩] scope pos) (tLcX (tI X.w X.K W mi) (tT X.w X.K is g) (tG TB X.w X.K WN t) (fun W' => tG TV X.w X.K W' el) W (own.map (·.2))) := by
    refine ⟨fun pins s σ H Q I h => ?_⟩
    rw [eval_ListComp]
    exact lcX_core (wi := tI X.w X.K W mi) (g := tT X.w X.K is g) (tt := tG TB X.w X.K WN t) (te := fun W' => tG TV X.w X.K W' el) hst hf tk hc hN I hi (blkOk_by ok) hg ht (fun W' s H C cl fp xe tk2 => he W' s H C cl fp xe tk2) hs h
  exact PE.weaken pe fun σ H Q h => lc_readX hsub h
end
end Mi

set_option Elab.async false
set_option linter.all false
set_option maxRecDepth 100000
set_option maxHeartbeats 0
namespace Cut
open PySem Mi
noncomputable section
def errs : List Str := ["CutError", "BadSigns", "BadWindow", "BadLengths", "BadWords", "BadLine"]
def m_is_from : M Fl := retM (andV (op1M (refM 0) (isiF "int")) (andV (notV (op1M (refM 0) (isiF "bool"))) (chainM (fun i j => decide (i ≤ j)) (fun i j => decide (i ≤ j)) (readM 1) (readM 0) (readM 2))))
def F_is_from : FnM := fnM 0 m_is_from
def m_check_lengths : M Fl := seqM (iteM (notT (testM (callM F_is_from (consM (readM 0) (consM (pureM (.int 1)) (consM (pureM (.int 6)) (pureM [])))))))
      (raiseM "BadLengths")
      (nxM))
      (iteM (andT (testM (op1M (refM 1) notNF)) (notT (testM (callM F_is_from (consM (readM 1) (consM (readM 0) (consM (pureM (.int 8)) (pureM []))))))))
      (raiseM "BadLengths")
      (nxM))
def F_check_lengths : FnM := fnM 0 m_check_lengths
def m_check_shape : M Fl := seqM (iteM (notT (testM (callM F_is_from (consM (readM 0) (consM (pureM (.int 2)) (consM (pureM (.int 3)) (pureM [])))))))
      (raiseM "BadSigns")
      (nxM))
      (iteM (notT (testM (callM F_is_from (consM (readM 1) (consM (pureM (.int 1)) (consM (pureM (.int 3)) (pureM [])))))))
      (raiseM "BadWindow")
      (nxM))
def F_check_shape : FnM := fnM 0 m_check_shape
def c_is_word_1 : M D := callM F_is_from (consM (readM 3) (consM (pureM (.int 0)) (consM (op2M (refM 0) (mapM' (pureM (.int 1)) Ref.val) subF) (pureM []))))
def m_is_word : M Fl := retM (andV (op1M (refM 2) (isiF "tuple")) (andV (op2M (mapM' (op1M (refM 2) lenF) Ref.val) (refM 1) eqF) (op1M (mapM' (giveM (lcM (walkM (readM 2)) (gN 3) (pureM true) (c_is_word_1) [3])) Ref.val) allF)))
def F_is_word : FnM := fnM 1 m_is_word
def b_Rule_1 : M Fl := iteM (orT (notT (testM (callM F_is_word (consM (readM 1) (consM (readM 2) (consM (readM 7) (pureM []))))))) (andT (testM (op2M (refM 6) (mapM' (pureM (.int 0)) Ref.val) (ordF .gt))) (testM (op2M (refM 7) (mapM' (op2M (refM 3) (mapM' (op2M (refM 6) (mapM' (pureM (.int 1)) Ref.val) subF) Ref.val) ixF) Ref.val) (ordF .le)))))
      (raiseXM "BadWords" ["index"] (consM (readM 6) (pureM [])))
      (nxM)
def m_Rule : M Fl := seqM (dropM (callM F_check_shape (consM (readM 1) (consM (readM 2) (pureM [])))))
      (seqM (iteM (notT (testM (op1M (refM 3) (isiF "tuple"))))
      (raiseXM "BadWords" ["index"] (consM (pureM .non) (pureM [])))
      (nxM))
      (seqM (forL (listM (consM (readM 3) (pureM [])) enum1D) (gTupM 2 (gsCons (gN 6) (gsCons (gN 7) (gsNil))))
      (b_Rule_1))
      (seqM (dropM (callM F_check_lengths (consM (readM 4) (consM (readM 5) (pureM [])))))
      (nxM))))
def F_Rule : FnM := initM m_Rule
def c__law_bad_1 : M D := op1M (refM 4) strF
def m__law_bad : M Fl := retM (orV (op2M (mapM' (op1M (refM 0) lenF) Ref.val) (refM 1) (ordF .le)) (op2M (mapM' (op2M (refM 0) (refM 1) ixF) Ref.val) (mapM' (giveM (lcM (listM (consM (readM 2) (consM (op2M (refM 3) (mapM' (pureM (.int 1)) Ref.val) addF) (pureM []))) range2D) (gN 4) (pureM true) (c__law_bad_1) [4])) Ref.val) (inF true)))
def F__law_bad : FnM := fnM 1 m__law_bad
def b__law_fault_1 : M Fl := iteM (testM (callM F__law_bad (consM (readM 0) (consM (readM 4) (consM (pureM (.int 0)) (consM (op2M (refM 1) (mapM' (pureM (.int 1)) Ref.val) subF) (pureM [])))))))
      (retM (op2M (refM 4) (mapM' (pureM (.int 1)) Ref.val) addF))
      (nxM)
def c__law_fault_1 : M D := op1M (refM 5) intTF
def m__law_fault : M Fl := seqM (iteM (orT (testM (op2M (refM 0) (mapM' (giveM (lstM (pureM []))) Ref.val) eqF)) (testM (op2M (mapM' (op2M (refM 0) (mapM' (pureM (.int 0)) Ref.val) ixF) Ref.val) (mapM' (pureM (.str "word")) Ref.val) neF)))
      (retM (pureM (.int 1)))
      (nxM))
      (seqM (forL (listM (consM (pureM (.int 1)) (consM (op2M (refM 2) (mapM' (pureM (.int 1)) Ref.val) addF) (pureM []))) range2D) (gN 4)
      (b__law_fault_1))
      (seqM (iteM (testM (op2M (mapM' (op1M (refM 0) lenF) Ref.val) (mapM' (op2M (refM 2) (mapM' (pureM (.int 1)) Ref.val) addF) Ref.val) (ordF .gt)))
      (retM (op2M (refM 2) (mapM' (pureM (.int 2)) Ref.val) addF))
      (nxM))
      (retM (iteM (andT (testM (op1M (refM 3) notNF)) (testM (op2M (mapM' (op1M (mapM' (giveM (lcM (walkM (sliceM (refM 0) (partM (pureM (.int 1))) (pureM none))) (gN 5) (pureM true) (c__law_fault_1) [5])) Ref.val) tupleF) Ref.val) (refM 3) (ordF .le)))) (pureM (.int 0)) (pureM .non)))))
def F__law_fault : FnM := fnM 2 m__law_fault
def m__law_first : M Fl := seqM (iteM (orT (testM (op2M (refM 0) (mapM' (giveM (lstM (pureM []))) Ref.val) eqF)) (testM (op2M (mapM' (op2M (refM 0) (mapM' (pureM (.int 0)) Ref.val) ixF) Ref.val) (mapM' (pureM (.str "rule")) Ref.val) neF)))
      (retM (pureM (.int 1)))
      (nxM))
      (seqM (iteM (testM (callM F__law_bad (consM (readM 0) (consM (pureM (.int 1)) (consM (pureM (.int 2)) (consM (pureM (.int 3)) (pureM [])))))))
      (retM (pureM (.int 2)))
      (nxM))
      (seqM (iteM (testM (callM F__law_bad (consM (readM 0) (consM (pureM (.int 2)) (consM (pureM (.int 1)) (consM (pureM (.int 3)) (pureM [])))))))
      (retM (pureM (.int 3)))
      (nxM))
      (seqM (iteM (testM (callM F__law_bad (consM (readM 0) (consM (pureM (.int 3)) (consM (pureM (.int 1)) (consM (pureM (.int 6)) (pureM [])))))))
      (retM (pureM (.int 4)))
      (nxM))
      (seqM (iteM (andT (testM (callM F__law_bad (consM (readM 0) (consM (pureM (.int 4)) (consM (op1M (mapM' (op2M (refM 0) (mapM' (pureM (.int 3)) Ref.val) ixF) Ref.val) intTF) (consM (pureM (.int 8)) (pureM []))))))) (testM (op2M (mapM' (sliceM (refM 0) (partM (pureM (.int 4))) (partM (pureM (.int 5)))) Ref.val) (mapM' (giveM (lstM (consM (pureM (.str "none")) (pureM [])))) Ref.val) neF)))
      (retM (pureM (.int 5)))
      (nxM))
      (retM (iteM (testM (op2M (mapM' (op1M (refM 0) lenF) Ref.val) (mapM' (pureM (.int 5)) Ref.val) (ordF .gt))) (pureM (.int 6)) (pureM .non)))))))
def F__law_first : FnM := fnM 0 m__law_first
def c__law_due_1 : M D := readM 7
def u__law_due_1 : M Bool := testM (op2M (refM 7) (mapM' (pureM (.str "")) Ref.val) neF)
def c__law_due_2 : M D := op1M (refM 7) intTF
def b__law_due_1 : M Fl := seqM (asgO 5 (lcM (walkM (giveM (splitM (op2M (refM 4) (refM 1) ixF) (mapM' (pureM (.str " ")) Ref.val)))) (gN 7) (u__law_due_1) (c__law_due_1) [7]))
      (seqM (iteM (testM (op2M (refM 1) (mapM' (pureM (.int 0)) Ref.val) eqF))
      (asgM 6 (callM F__law_first (consM (readM 5) (pureM []))))
      (asgM 6 (callM F__law_fault (consM (readM 5) (consM (op2M (refM 2) (mapM' (pureM (.int 0)) Ref.val) ixF) (consM (op2M (refM 2) (mapM' (pureM (.int 1)) Ref.val) ixF) (consM (iteM (testM (op2M (refM 3) (mapM' (giveM (lstM (pureM []))) Ref.val) neF)) (op2M (refM 3) (mapM' (negM (pureM (.int 1))) Ref.val) ixF) (pureM .non)) (pureM []))))))))
      (seqM (iteM (testM (op1M (refM 6) notNF))
      (retM (giveM (lstM (consM (pureM (.str "line")) (consM (op2M (refM 1) (mapM' (pureM (.int 1)) Ref.val) addF) (consM (readM 6) (pureM [])))))))
      (nxM))
      (iteM (testM (op2M (refM 1) (mapM' (pureM (.int 0)) Ref.val) eqF))
      (asgM 2 (giveM (lstM (consM (op1M (mapM' (op2M (refM 5) (mapM' (pureM (.int 1)) Ref.val) ixF) Ref.val) intTF) (consM (op1M (mapM' (op2M (refM 5) (mapM' (pureM (.int 2)) Ref.val) ixF) Ref.val) intTF) (consM (op1M (mapM' (op2M (refM 5) (mapM' (pureM (.int 3)) Ref.val) ixF) Ref.val) intTF) (consM (iteM (testM (op2M (mapM' (op2M (refM 5) (mapM' (pureM (.int 4)) Ref.val) ixF) Ref.val) (mapM' (pureM (.str "none")) Ref.val) eqF)) (pureM .non) (op1M (mapM' (op2M (refM 5) (mapM' (pureM (.int 4)) Ref.val) ixF) Ref.val) intTF)) (pureM []))))))))
      (appM 3 (op1M (mapM' (giveM (lcM (walkM (sliceM (refM 5) (partM (pureM (.int 1))) (pureM none))) (gN 7) (pureM true) (c__law_due_2) [7])) Ref.val) tupleF)))))
def m__law_due : M Fl := seqM (parM [2, 3, 4] (consV (pureM .non) (consO (lstM (pureM [])) (consV (giveM (splitM (readM 0) (mapM' (pureM (.str "\n")) Ref.val))) (pureM [])))))
      (seqM (forL (listM (consM (op1M (refM 4) lenF) (pureM [])) range1D) (gN 1)
      (b__law_due_1))
      (retM (callM F_Rule (consM (op2M (refM 2) (mapM' (pureM (.int 0)) Ref.val) ixF) (consM (op2M (refM 2) (mapM' (pureM (.int 1)) Ref.val) ixF) (consM (op1M (refM 3) tupleF) (consM (op2M (refM 2) (mapM' (pureM (.int 2)) Ref.val) ixF) (consM (op2M (refM 2) (mapM' (pureM (.int 3)) Ref.val) ixF) (pureM [])))))))))
def F__law_due : FnM := fnM 7 m__law_due
def c__law_lines_1 : M D := op1M (refM 4) strF
def b__law_lines_1 : M Fl := appM 2 (joinM (pureM (.str " ")) (mapM' (op2M (mapM' (giveM (lstM (consM (pureM (.str "word")) (pureM [])))) Ref.val) (mapM' (giveM (lcM (walkM (readM 3)) (gN 4) (pureM true) (c__law_lines_1) [4])) Ref.val) addF) Ref.val))
def m__law_lines : M Fl := seqM (asgM 1 (iteM (testM (op1M (mapM' (op2M (refM 0) (mapM' (pureM (.int 4)) Ref.val) ixF) Ref.val) isNF)) (pureM (.str "none")) (op1M (mapM' (op2M (refM 0) (mapM' (pureM (.int 4)) Ref.val) ixF) Ref.val) strF)))
      (seqM (asgO 2 (lstM (consM (joinM (pureM (.str " ")) (mapM' (giveM (lstM (consM (pureM (.str "rule")) (consM (op1M (mapM' (op2M (refM 0) (mapM' (pureM (.int 0)) Ref.val) ixF) Ref.val) strF) (consM (op1M (mapM' (op2M (refM 0) (mapM' (pureM (.int 1)) Ref.val) ixF) Ref.val) strF) (consM (op1M (mapM' (op2M (refM 0) (mapM' (pureM (.int 3)) Ref.val) ixF) Ref.val) strF) (consM (readM 1) (pureM [])))))))) Ref.val)) (pureM []))))
      (seqM (forL (walkM (op2M (refM 0) (mapM' (pureM (.int 2)) Ref.val) ixF)) (gN 3)
      (b__law_lines_1))
      (retM (readM 2))))
def F__law_lines : FnM := fnM 4 m__law_lines
def m__law_pick : M Fl := seqM (iteM (testM (op2M (mapM' (rowM 0 2) Ref.val) (mapM' (pureM (.int 0)) Ref.val) eqF))
      (iteM (testM (op2M (mapM' (rowM 0 1) Ref.val) (mapM' (op1M (mapM' (rowM 0 0) Ref.val) lenF) Ref.val) (ordF .lt)))
      (seqM (asgM 3 (op2M (mapM' (rowM 0 0) Ref.val) (mapM' (rowM 0 1) Ref.val) ixF))
      (seqM (rowSet 0 1 (op2M (mapM' (rowM 0 1) Ref.val) (mapM' (pureM (.int 1)) Ref.val) addF))
      (iteM (testM (op2M (refM 3) (mapM' (op2M (mapM' (pureM (.int 10)) Ref.val) (mapM' (pureM (.int 18)) Ref.val) powF) Ref.val) geF))
      (rowSet 0 2 (readM 3))
      (rowSet 0 3 (op2M (mapM' (op1M (mapM' (op2M (mapM' (op2M (mapM' (op2M (mapM' (rowM 0 3) Ref.val) (mapM' (pureM (.int 48271)) Ref.val) mulF) Ref.val) (mapM' (op2M (refM 3) (mapM' (pureM (.int 69621)) Ref.val) mulF) Ref.val) addF) Ref.val) (mapM' (pureM (.int 11)) Ref.val) addF) Ref.val) toIntF) Ref.val) (mapM' (pureM (.int 2147483647)) Ref.val) modF)))))
      (rowSet 0 3 (op2M (mapM' (op1M (mapM' (op2M (mapM' (op2M (mapM' (rowM 0 3) Ref.val) (mapM' (pureM (.int 48271)) Ref.val) mulF) Ref.val) (mapM' (pureM (.int 7)) Ref.val) addF) Ref.val) toIntF) Ref.val) (mapM' (pureM (.int 2147483647)) Ref.val) modF)))
      (nxM))
      (seqM (iteM (testM (op2M (mapM' (rowM 0 2) Ref.val) (mapM' (pureM (.int 0)) Ref.val) (ordF .gt)))
      (seqM (asgM 2 (op2M (mapM' (op1M (mapM' (rowM 0 2) Ref.val) toIntF) Ref.val) (refM 1) modF))
      (seqM (rowSet 0 2 (op2M (mapM' (rowM 0 2) Ref.val) (refM 1) fdivF))
      (retM (readM 2))))
      (nxM))
      (retM (op2M (mapM' (op2M (mapM' (op1M (mapM' (op2M (mapM' (rowM 0 3) Ref.val) (mapM' (pureM (.int 16807)) Ref.val) mulF) Ref.val) toIntF) Ref.val) (mapM' (pureM (.int 2147483629)) Ref.val) modF) Ref.val) (refM 1) modF)))
def F__law_pick : FnM := fnM 2 m__law_pick
def c__law_words_1 : M D := op2M (refM 5) (mapM' (tupM (consM (readM 6) (pureM []))) Ref.val) addF
def b__law_words_1 : M Fl := asgM 4 (op2M (refM 4) (mapM' (giveM (lcM (listM (consM (readM 0) (pureM [])) range1D) (gN 6) (pureM true) (c__law_words_1) [6])) Ref.val) addF)
def b__law_words_2 : M Fl := seqM (asgM 4 (giveM (lstM (pureM []))))
      (seqM (forL (walkM (readM 2)) (gN 5)
      (b__law_words_1))
      (asgM 2 (readM 4)))
def m__law_words : M Fl := seqM (asgM 2 (giveM (lstM (consM (tupM (pureM [])) (pureM [])))))
      (seqM (forL (listM (consM (readM 1) (pureM [])) range1D) (gN 3)
      (b__law_words_2))
      (retM (readM 2)))
def F__law_words : FnM := fnM 5 m__law_words
def c__law_rule_1 : M D := readM 10
def u__law_rule_1 : M Bool := testM (op2M (mapM' (callM F__law_pick (consM (readM 0) (consM (readM 6) (pureM [])))) Ref.val) (mapM' (pureM (.int 0)) Ref.val) eqF)
def m__law_rule : M Fl := seqM (asgM 4 (op2M (mapM' (pureM (.int 2)) Ref.val) (mapM' (op2M (mapM' (op1M (mapM' (op2M (mapM' (callM F__law_pick (consM (readM 0) (consM (pureM (.int 3)) (pureM [])))) Ref.val) (mapM' (pureM (.int 0)) Ref.val) eqF) Ref.val) toIntF) Ref.val) (mapM' (op2M (refM 1) (mapM' (pureM (.int 2)) Ref.val) subF) Ref.val) mulF) Ref.val) addF))
      (seqM (asgM 5 (op2M (mapM' (pureM (.int 1)) Ref.val) (mapM' (callM F__law_pick (consM (readM 0) (consM (readM 2) (pureM [])))) Ref.val) addF))
      (seqM (asgM 6 (op2M (mapM' (pureM (.int 2)) Ref.val) (mapM' (callM F__law_pick (consM (readM 0) (consM (pureM (.int 3)) (pureM [])))) Ref.val) addF))
      (seqM (asgM 7 (op1M (mapM' (giveM (lcM (walkM (callM F__law_words (consM (readM 4) (consM (readM 5) (pureM []))))) (gN 10) (u__law_rule_1) (c__law_rule_1) [10])) Ref.val) tupleF))
      (seqM (asgM 8 (op2M (mapM' (pureM (.int 1)) Ref.val) (mapM' (callM F__law_pick (consM (readM 0) (consM (pureM (.int 3)) (pureM [])))) Ref.val) addF))
      (seqM (asgM 9 (op2M (refM 8) (mapM' (callM F__law_pick (consM (readM 0) (consM (op2M (refM 3) (mapM' (pureM (.int 2)) Ref.val) subF) (pureM [])))) Ref.val) addF))
      (retM (tupM (consM (readM 4) (consM (readM 5) (consM (readM 7) (consM (readM 8) (consM (op2M (mapM' (giveM (lstM (consM (pureM .non) (consM (readM 9) (pureM []))))) Ref.val) (mapM' (callM F__law_pick (consM (readM 0) (consM (pureM (.int 2)) (pureM [])))) Ref.val) ixF) (pureM [])))))))))))))
def F__law_rule : FnM := fnM 7 m__law_rule
def m__law_spoilt : M Fl := seqM (asgM 2 (giveM (splitM (readM 1) (mapM' (pureM (.str " ")) Ref.val))))
      (seqM (parM [4, 5] (consV (callM F__law_pick (consM (readM 0) (consM (op1M (refM 2) lenF) (pureM [])))) (consV (callM F__law_pick (consM (readM 0) (consM (pureM (.int 6)) (pureM [])))) (pureM []))))
      (seqM (asgM 3 (giveM (lstM (consM (pureM (.str "")) (consM (pureM (.str "0")) (consM (pureM (.str "1")) (consM (pureM (.str "2")) (consM (pureM (.str "3")) (consM (pureM (.str "4")) (consM (pureM (.str "6")) (consM (pureM (.str "8")) (consM (pureM (.str "9")) (consM (pureM (.str "-1")) (consM (pureM (.str "01")) (consM (pureM (.str "rule")) (consM (pureM (.str "word")) (consM (pureM (.str "none")) (consM (pureM (.str "x")) (consM (pureM (.str "10")) (pureM []))))))))))))))))))))
      (seqM (iteM (testM (op2M (refM 5) (mapM' (pureM (.int 0)) Ref.val) eqF))
      (retM (joinM (pureM (.str " ")) (mapM' (op2M (mapM' (sliceM (refM 2) (pureM none) (partM (readM 4))) Ref.val) (mapM' (sliceM (refM 2) (partM (op2M (refM 4) (mapM' (pureM (.int 1)) Ref.val) addF)) (pureM none)) Ref.val) addF) Ref.val)))
      (nxM))
      (seqM (iteM (testM (op2M (refM 5) (mapM' (pureM (.int 1)) Ref.val) eqF))
      (retM (joinM (pureM (.str " ")) (mapM' (op2M (mapM' (op2M (mapM' (sliceM (refM 2) (pureM none) (partM (readM 4))) Ref.val) (mapM' (giveM (lstM (consM (op2M (refM 2) (refM 4) ixF) (pureM [])))) Ref.val) addF) Ref.val) (mapM' (sliceM (refM 2) (partM (readM 4)) (pureM none)) Ref.val) addF) Ref.val)))
      (nxM))
      (seqM (iteM (testM (op2M (refM 5) (mapM' (pureM (.int 2)) Ref.val) eqF))
      (retM (joinM (pureM (.str " ")) (mapM' (sliceM (refM 2) (pureM none) (partM (readM 4))) Ref.val)))
      (nxM))
      (retM (joinM (pureM (.str " ")) (mapM' (op2M (mapM' (op2M (mapM' (sliceM (refM 2) (pureM none) (partM (readM 4))) Ref.val) (mapM' (giveM (lstM (consM (op2M (refM 3) (mapM' (callM F__law_pick (consM (readM 0) (consM (pureM (.int 16)) (pureM [])))) Ref.val) ixF) (pureM [])))) Ref.val) addF) Ref.val) (mapM' (sliceM (refM 2) (partM (op2M (refM 4) (mapM' (op1M (mapM' (op2M (refM 5) (mapM' (pureM (.int 5)) Ref.val) (ordF .lt)) Ref.val) toIntF) Ref.val) addF)) (pureM none)) Ref.val) addF) Ref.val))))))))
def F__law_spoilt : FnM := fnM 4 m__law_spoilt
def c_number_in_1 : M D := op1M (refM 5) strF
def m_number_in : M Fl := seqM (iteM (orT (testM (op2M (refM 1) (mapM' (op1M (refM 0) lenF) Ref.val) geF)) (testM (op2M (mapM' (op2M (refM 0) (refM 1) ixF) Ref.val) (mapM' (giveM (lcM (listM (consM (readM 3) (consM (op2M (refM 4) (mapM' (pureM (.int 1)) Ref.val) addF) (pureM []))) range2D) (gN 5) (pureM true) (c_number_in_1) [5])) Ref.val) (inF true))))
      (raiseXM "BadLine" ["line", "word"] (consM (readM 2) (consM (op2M (refM 1) (mapM' (pureM (.int 1)) Ref.val) addF) (pureM []))))
      (nxM))
      (retM (op1M (mapM' (op2M (refM 0) (refM 1) ixF) Ref.val) intTF))
def F_number_in : FnM := fnM 1 m_number_in
def m_head_in : M Fl := seqM (iteM (testM (op2M (mapM' (sliceM (refM 0) (pureM none) (partM (pureM (.int 1)))) Ref.val) (mapM' (giveM (lstM (consM (pureM (.str "rule")) (pureM [])))) Ref.val) neF))
      (raiseXM "BadLine" ["line", "word"] (consM (pureM (.int 1)) (consM (pureM (.int 1)) (pureM []))))
      (nxM))
      (seqM (parM [3, 4] (consV (callM F_number_in (consM (readM 0) (consM (pureM (.int 1)) (consM (pureM (.int 1)) (consM (pureM (.int 2)) (consM (pureM (.int 3)) (pureM []))))))) (consV (callM F_number_in (consM (readM 0) (consM (pureM (.int 2)) (consM (pureM (.int 1)) (consM (pureM (.int 1)) (consM (pureM (.int 3)) (pureM []))))))) (pureM []))))
      (seqM (asgM 1 (callM F_number_in (consM (readM 0) (consM (pureM (.int 3)) (consM (pureM (.int 1)) (consM (pureM (.int 1)) (consM (pureM (.int 6)) (pureM []))))))))
      (seqM (asgM 2 (iteM (testM (op2M (mapM' (sliceM (refM 0) (partM (pureM (.int 4))) (partM (pureM (.int 5)))) Ref.val) (mapM' (giveM (lstM (consM (pureM (.str "none")) (pureM [])))) Ref.val) eqF)) (pureM .non) (callM F_number_in (consM (readM 0) (consM (pureM (.int 4)) (consM (pureM (.int 1)) (consM (readM 1) (consM (pureM (.int 8)) (pureM [])))))))))
      (seqM (iteM (testM (op2M (mapM' (op1M (refM 0) lenF) Ref.val) (mapM' (pureM (.int 5)) Ref.val) (ordF .gt)))
      (raiseXM "BadLine" ["line", "word"] (consM (pureM (.int 1)) (consM (pureM (.int 6)) (pureM []))))
      (nxM))
      (retM (tupM (consM (readM 3) (consM (readM 4) (consM (readM 1) (consM (readM 2) (pureM [])))))))))))
def F_head_in : FnM := fnM 4 m_head_in
def c_word_in_1 : M D := callM F_number_in (consM (readM 0) (consM (readM 5) (consM (readM 1) (consM (pureM (.int 0)) (consM (op2M (refM 2) (mapM' (pureM (.int 1)) Ref.val) subF) (pureM []))))))
def m_word_in : M Fl := seqM (iteM (testM (op2M (mapM' (sliceM (refM 0) (pureM none) (partM (pureM (.int 1)))) Ref.val) (mapM' (giveM (lstM (consM (pureM (.str "word")) (pureM [])))) Ref.val) neF))
      (raiseXM "BadLine" ["line", "word"] (consM (readM 1) (consM (pureM (.int 1)) (pureM []))))
      (nxM))
      (seqM (asgM 4 (op1M (mapM' (giveM (lcMX (listM (consM (pureM (.int 1)) (consM (op2M (refM 3) (mapM' (pureM (.int 1)) Ref.val) addF) (pureM []))) range2D) (gN 5) (pureM true) (c_word_in_1) [5])) Ref.val) tupleF))
      (seqM (iteM (testM (op2M (mapM' (op1M (refM 0) lenF) Ref.val) (mapM' (op2M (refM 3) (mapM' (pureM (.int 1)) Ref.val) addF) Ref.val) (ordF .gt)))
      (raiseXM "BadLine" ["line", "word"] (consM (readM 1) (consM (op2M (refM 3) (mapM' (pureM (.int 2)) Ref.val) addF) (pureM []))))
      (nxM))
      (retM (readM 4))))
def F_word_in : FnM := fnM 2 m_word_in
def c_read_1 : M D := readM 9
def u_read_1 : M Bool := testM (op2M (refM 9) (mapM' (pureM (.str "")) Ref.val) neF)
def c_read_2 : M D := giveM (lcM (walkM (giveM (splitM (readM 10) (mapM' (pureM (.str " ")) Ref.val)))) (gN 9) (u_read_1) (c_read_1) [9])
def b_read_1 : M Fl := seqM (asgM 9 (callM F_word_in (consM (readM 8) (consM (op2M (refM 7) (mapM' (pureM (.int 2)) Ref.val) addF) (consM (readM 3) (consM (readM 4) (pureM [])))))))
      (seqM (iteM (andT (testM (op2M (refM 2) (mapM' (giveM (lstM (pureM []))) Ref.val) neF)) (testM (op2M (refM 9) (mapM' (op2M (refM 2) (mapM' (negM (pureM (.int 1))) Ref.val) ixF) Ref.val) (ordF .le))))
      (raiseXM "BadLine" ["line", "word"] (consM (op2M (refM 7) (mapM' (pureM (.int 2)) Ref.val) addF) (consM (pureM (.int 0)) (pureM []))))
      (nxM))
      (appM 2 (readM 9)))
def m_read : M Fl := seqM (asgO 1 (lcM (walkM (giveM (splitM (readM 0) (mapM' (pureM (.str "\n")) Ref.val)))) (gN 10) (pureM true) (c_read_2) [10]))
      (seqM (asgG (callM F_head_in (consM (op2M (refM 1) (mapM' (pureM (.int 0)) Ref.val) ixF) (pureM []))) (gTupM 4 (gsCons (gN 3) (gsCons (gN 4) (gsCons (gN 5) (gsCons (gN 6) (gsNil)))))))
      (seqM (asgO 2 (lstM (pureM [])))
      (seqM (forL (listM (consM (sliceM (refM 1) (partM (pureM (.int 1))) (pureM none)) (pureM [])) enum1D) (gTupM 2 (gsCons (gN 7) (gsCons (gN 8) (gsNil))))
      (b_read_1))
      (retM (callM F_Rule (consM (readM 3) (consM (readM 4) (consM (op1M (refM 2) tupleF) (consM (readM 5) (consM (readM 6) (pureM [])))))))))))
def F_read : FnM := fnM 10 m_read
def m__law_told_there : M Fl := seqM (asgM 1 (pureM .non))
      (seqM (tryMX errs (asgM 1 (callM F_read (consM (readM 0) (pureM [])))) [("BadLine", 2, fun x => asgM 1 ((errL2 "line" "line" "word") x))])
      (retM (readM 1)))
def F__law_told_there : FnM := fnM 2 m__law_told_there
def m_parts_of : M Fl := retM (tupM (consM (op1M (refM 0) (fldF 0)) (consM (op1M (refM 0) (fldF 1)) (consM (op1M (refM 0) (fldF 2)) (consM (op1M (refM 0) (fldF 3)) (consM (op1M (refM 0) (fldF 4)) (pureM [])))))))
def F_parts_of : FnM := fnM 0 m_parts_of
def m_eq : M Fl := retM (andV (op1M (refM 1) isRuleF) (op2M (mapM' (callM F_parts_of (consM (readM 0) (pureM []))) Ref.val) (mapM' (callM F_parts_of (consM (readM 1) (pureM []))) Ref.val) eqF))
def F_eq : FnM := fnM 0 m_eq
def b_law_1 : M Fl := seqM (parM [5, 6] (consV (callM F__law_pick (consM (readM 1) (consM (op1M (refM 3) lenF) (pureM [])))) (consV (callM F__law_pick (consM (readM 1) (consM (pureM (.int 8)) (pureM [])))) (pureM []))))
      (iteM (andT (testM (op2M (refM 6) (mapM' (pureM (.int 0)) Ref.val) eqF)) (testM (op2M (mapM' (op1M (refM 3) lenF) Ref.val) (mapM' (pureM (.int 1)) Ref.val) (ordF .gt))))
      (asgO 3 (op2O (mapM' (sliceM (refM 3) (pureM none) (partM (readM 5))) Ref.val) (mapM' (sliceM (refM 3) (partM (op2M (refM 5) (mapM' (pureM (.int 1)) Ref.val) addF)) (pureM none)) Ref.val) catO))
      (iteM (testM (op2M (refM 6) (mapM' (pureM (.int 1)) Ref.val) eqF))
      (asgO 3 (op2O (mapM' (op2M (mapM' (sliceM (refM 3) (pureM none) (partM (readM 5))) Ref.val) (mapM' (giveM (lstM (consM (op2M (refM 3) (refM 5) ixF) (pureM [])))) Ref.val) addF) Ref.val) (mapM' (sliceM (refM 3) (partM (readM 5)) (pureM none)) Ref.val) catO))
      (iteM (testM (op2M (refM 6) (mapM' (pureM (.int 2)) Ref.val) eqF))
      (asgO 3 (op2O (mapM' (sliceM (refM 3) (pureM none) (partM (pureM (.int 1)))) Ref.val) (mapM' (op1M (mapM' (sliceM (refM 3) (partM (pureM (.int 1))) (pureM none)) Ref.val) revLF) Ref.val) catO))
      (setIxM 3 (readM 5) (callM F__law_spoilt (consM (readM 1) (consM (op2M (refM 3) (refM 5) ixF) (pureM []))))))))
def b_law_2 : M Fl := seqM (asgO 3 (callO F__law_lines (consM (callM F__law_rule (consM (readM 1) (consM (pureM (.int 3)) (consM (pureM (.int 3)) (consM (pureM (.int 6)) (pureM [])))))) (pureM []))))
      (seqM (forL (listM (consM (callM F__law_pick (consM (readM 1) (consM (pureM (.int 3)) (pureM [])))) (pureM [])) range1D) (gN 4)
      (b_law_1))
      (iteM (testM (eqOM (mapM' (callM F__law_told_there (consM (joinM (pureM (.str "\n")) (refM 3)) (pureM []))) Ref.val) (mapM' (callM F__law_due (consM (joinM (pureM (.str "\n")) (refM 3)) (pureM []))) Ref.val) F_eq true))
      (retM (pureM (.bl false)))
      (nxM)))
def m_law : M Fl := seqM (forL (listM (consM (pureM (.int 8)) (pureM [])) range1D) (gN 2)
      (b_law_2))
      (retM (eqOM (mapM' (callM F__law_told_there (consM (pureM (.str "")) (pureM []))) Ref.val) (mapM' (giveM (lstM (consM (pureM (.str "line")) (consM (pureM (.int 1)) (consM (pureM (.int 1)) (pureM [])))))) Ref.val) F_eq false))
end
end Cut

set_option Elab.async false
set_option linter.all false
set_option maxRecDepth 100000
set_option maxHeartbeats 0
namespace Cut
open PySem PySem.Spec PyProof.Rows L2 Mi
def top (i : Nat) : Stmt := PySem.Challenge.pw_cutsagain_k15_texts_refused.main.body.getD i (.Pass ⟨0, 0, 0, 0⟩)
/-- what is asked of the snapshot -/
structure Facts (K : PySem.W.Frag) (mg : Str → Option Value) : Prop where
  b_all : mg "all" = none
  b_bool : mg "bool" = none
  b_enumerate : mg "enumerate" = none
  b_int : mg "int" = none
  b_isinstance : mg "isinstance" = none
  b_len : mg "len" = none
  b_list : mg "list" = none
  b_range : mg "range" = none
  b_str : mg "str" = none
  b_tuple : mg "tuple" = none
  c_MOST_LEAST : ∃ t, mg "MOST_LEAST" = some (.int 6 t)
  c_MOST_LENGTH : ∃ t, mg "MOST_LENGTH" = some (.int 8 t)
  c_MOST_SIGNS : ∃ t, mg "MOST_SIGNS" = some (.int 3 t)
  c_MOST_WINDOW : ∃ t, mg "MOST_WINDOW" = some (.int 3 t)
  c_NONE : ∃ t, mg "NONE" = some (.str "none" t)
  c_RULE : ∃ t, mg "RULE" = some (.str "rule" t)
  c_WORD : ∃ t, mg "WORD" = some (.str "word" t)
  cl : Cls K (He.ga K "Rule")
  e_BadLengths : ExcF K mg "BadLengths"
  e_BadSigns : ExcF K mg "BadSigns"
  e_BadWindow : ExcF K mg "BadWindow"
  eqc : EqCls K
  et : ExTab K mg errs
  g_Rule : mg "Rule" = some (.ref (He.ga K "Rule"))
  kRR : PySem.W.kitOne K (.ref (He.ga K "Rule")) (.ref (He.ga K "Rule")) = some true
  kTR : ∀ t ∈ ["NoneType", "bool", "int", "str", "list", "tuple", "dict"], PySem.W.kitOne K (.type t) (.ref (He.ga K "Rule")) = some false
  ki_bool : PySem.W.kitOne K (.ref (He.ga K "Rule")) (.type "bool") = some false
  ki_int : PySem.W.kitOne K (.ref (He.ga K "Rule")) (.type "int") = some false
  ki_tuple : PySem.W.kitOne K (.ref (He.ga K "Rule")) (.type "tuple") = some false
  na_high : NoAttr K (He.ga K "Rule") "high"
  na_low : NoAttr K (He.ga K "Rule") "low"
  na_many : NoAttr K (He.ga K "Rule") "many"
  na_rows : NoAttr K (He.ga K "Rule") "rows"
  na_wide : NoAttr K (He.ga K "Rule") "wide"
  ri : RuleIs K
  x_BadLine : ExcI K mg "BadLine" ["line", "word"]
  x_BadWords : ExcI K mg "BadWords" ["index"]
theorem u65 {k : Nat} {A : Around} (r : Room k A) : A.units + 65 < cLine := by
  have := r.un
  omega
theorem initM_ret {b : M Fl} {ds : List D} {row row' : RowS} {d : D} (h : initM b ds row = .ret d row') : ∃ l, d = .obj l := by
  unfold initM at h
  split at h
  · split at h
    · cases h
      exact ⟨_, rfl⟩
    · cases h
  · cases h
  · cases h
  · cases h
/-! is_from -/
theorem sc_is_from : FnScope ["value", "low", "high"] ["value", "low", "high"] (defScope (top 12)) := ⟨rfl, rfl, rfl, by decide +kernel, rfl, by decide +kernel, by decide +kernel⟩
theorem w_is_from {P : Program} {w : World} {K : PySem.W.Frag} {mg : Str → Option Value} {base : Heap} (FS : Facts K mg) {fa : Addr} {cdv : Value} {A : Around} {outer : List PySem.Env} {s : Shared} {H : Hp} {E : XK} (hr : Room 0 (A.deeper (envOfC "is_from" (defScope (top 12)) s.heap.objs.size fa cdv))) (tk : Takes (cxOf (L2.CX P w) P w K mg base ["value", "low", "high"] "is_from" (defScope (top 12)) fa cdv A outer s H E) (fun cls d _ H' => E cls d H')) : PSsM (cxOf (L2.CX P w) P w K mg base ["value", "low", "high"] "is_from" (defScope (top 12)) fa cdv A outer s H E) (fun cls d _ H' => E cls d H') (defBody (top 12)) m_is_from := by
  have sc := sc_is_from
  exact pssm_one (psm_ret (pm_and (pm_isi FS.b_isinstance (by decide +kernel) FS.b_int (by decide +kernel) FS.ri FS.ki_int (pm_ref 0)) (pm_and (pm_not (pm_isi FS.b_isinstance (by decide +kernel) FS.b_bool (by decide +kernel) FS.ri FS.ki_bool (pm_ref 0))) (pm_one (pm_chain op_le op_le (pm_var 1) (pm_var 0) (pm_var 2))))))
theorem f_is_from {P : Program} {w : World} {K : PySem.W.Frag} {mg : Str → Option Value} {base : Heap} {fa : Addr} {fd : FuncData} (FS : Facts K mg) (FD : FunD K "is_from" "is_from" (defArgs (top 12)) (defBody (top 12)) (defScope (top 12)) [] [] fa fd) (hm : mg "is_from" = some (.ref fa)) (hb : Binds K fd ["value", "low", "high"] []) : Fn P w K mg base "is_from" 1 3 F_is_from := fn_ok FD sc_is_from hm hb rfl rfl fun cdv A outer s H E hr tk => w_is_from FS hr tk
/-! check_lengths -/
theorem sc_check_lengths : FnScope ["least", "most"] ["least", "most"] (defScope (top 15)) := ⟨rfl, rfl, rfl, by decide +kernel, rfl, by decide +kernel, by decide +kernel⟩
theorem w_check_lengths {P : Program} {w : World} {K : PySem.W.Frag} {mg : Str → Option Value} {base : Heap} (FS : Facts K mg) (G_is_from : Fn P w K mg base "is_from" 1 3 F_is_from) {fa : Addr} {cdv : Value} {A : Around} {outer : List PySem.Env} {s : Shared} {H : Hp} {E : XK} (hr : Room 1 (A.deeper (envOfC "check_lengths" (defScope (top 15)) s.heap.objs.size fa cdv))) (tk : Takes (cxOf (L2.CX P w) P w K mg base ["least", "most"] "check_lengths" (defScope (top 15)) fa cdv A outer s H E) (fun cls d _ H' => E cls d H')) : PSsM (cxOf (L2.CX P w) P w K mg base ["least", "most"] "check_lengths" (defScope (top 15)) fa cdv A outer s H E) (fun cls d _ H' => E cls d H') (defBody (top 15)) m_check_lengths := by
  have sc := sc_check_lengths
  exact pssm_cons (psm_if (pmt_not (pmt_val (pm_call G_is_from hr tk (pma_cons (pm_var 0) (pma_cons (pm_int) (pma_cons (pm_gint FS.c_MOST_LEAST) (pma_nil)))) (cons_len (cons_len (cons_len nil_len))))))
      (pssm_one (psm_raise0 FS.e_BadLengths tk))
      (pssm_nil))
      (pssm_one (psm_if (pmt_w (pmw_and (pmt_notN (pm_ref 1)) (pmw_and1 (pmt_not (pmt_val (pm_call G_is_from hr tk (pma_cons (pm_var 1) (pma_cons (pm_var 0) (pma_cons (pm_gint FS.c_MOST_LENGTH) (pma_nil)))) (cons_len (cons_len (cons_len nil_len)))))))))
      (pssm_one (psm_raise0 FS.e_BadLengths tk))
      (pssm_nil)))
theorem f_check_lengths {P : Program} {w : World} {K : PySem.W.Frag} {mg : Str → Option Value} {base : Heap} {fa : Addr} {fd : FuncData} (FS : Facts K mg) (G_is_from : Fn P w K mg base "is_from" 1 3 F_is_from) (FD : FunD K "check_lengths" "check_lengths" (defArgs (top 15)) (defBody (top 15)) (defScope (top 15)) [] [] fa fd) (hm : mg "check_lengths" = some (.ref fa)) (hb : Binds K fd ["least", "most"] []) : Fn P w K mg base "check_lengths" 2 2 F_check_lengths := fn_ok FD sc_check_lengths hm hb rfl rfl fun cdv A outer s H E hr tk => w_check_lengths FS G_is_from hr tk
/-! check_shape -/
theorem sc_check_shape : FnScope ["signs", "window"] ["signs", "window"] (defScope (top 14)) := ⟨rfl, rfl, rfl, by decide +kernel, rfl, by decide +kernel, by decide +kernel⟩
theorem w_check_shape {P : Program} {w : World} {K : PySem.W.Frag} {mg : Str → Option Value} {base : Heap} (FS : Facts K mg) (G_is_from : Fn P w K mg base "is_from" 1 3 F_is_from) {fa : Addr} {cdv : Value} {A : Around} {outer : List PySem.Env} {s : Shared} {H : Hp} {E : XK} (hr : Room 1 (A.deeper (envOfC "check_shape" (defScope (top 14)) s.heap.objs.size fa cdv))) (tk : Takes (cxOf (L2.CX P w) P w K mg base ["signs", "window"] "check_shape" (defScope (top 14)) fa cdv A outer s H E) (fun cls d _ H' => E cls d H')) : PSsM (cxOf (L2.CX P w) P w K mg base ["signs", "window"] "check_shape" (defScope (top 14)) fa cdv A outer s H E) (fun cls d _ H' => E cls d H') (defBody (top 14)) m_check_shape := by
  have sc := sc_check_shape
  exact pssm_cons (psm_if (pmt_not (pmt_val (pm_call G_is_from hr tk (pma_cons (pm_var 0) (pma_cons (pm_int) (pma_cons (pm_gint FS.c_MOST_SIGNS) (pma_nil)))) (cons_len (cons_len (cons_len nil_len))))))
      (pssm_one (psm_raise0 FS.e_BadSigns tk))
      (pssm_nil))
      (pssm_one (psm_if (pmt_not (pmt_val (pm_call G_is_from hr tk (pma_cons (pm_var 1) (pma_cons (pm_int) (pma_cons (pm_gint FS.c_MOST_WINDOW) (pma_nil)))) (cons_len (cons_len (cons_len nil_len))))))
      (pssm_one (psm_raise0 FS.e_BadWindow tk))
      (pssm_nil)))
theorem f_check_shape {P : Program} {w : World} {K : PySem.W.Frag} {mg : Str → Option Value} {base : Heap} {fa : Addr} {fd : FuncData} (FS : Facts K mg) (G_is_from : Fn P w K mg base "is_from" 1 3 F_is_from) (FD : FunD K "check_shape" "check_shape" (defArgs (top 14)) (defBody (top 14)) (defScope (top 14)) [] [] fa fd) (hm : mg "check_shape" = some (.ref fa)) (hb : Binds K fd ["signs", "window"] []) : Fn P w K mg base "check_shape" 2 2 F_check_shape := fn_ok FD sc_check_shape hm hb rfl rfl fun cdv A outer s H E hr tk => w_check_shape FS G_is_from hr tk
/-! is_word -/
theorem sc_is_word : FnScope ["signs", "window", "value", "one"] ["signs", "window", "value"] (defScope (top 13)) := ⟨rfl, rfl, rfl, by decide +kernel, rfl, by decide +kernel, by decide +kernel⟩
theorem w_is_word {P : Program} {w : World} {K : PySem.W.Frag} {mg : Str → Option Value} {base : Heap} (FS : Facts K mg) (G_is_from : Fn P w K mg base "is_from" 1 3 F_is_from) {fa : Addr} {cdv : Value} {A : Around} {outer : List PySem.Env} {s : Shared} {H : Hp} {E : XK} (hr : Room 1 (A.deeper (envOfC "is_word" (defScope (top 13)) s.heap.objs.size fa cdv))) (tk : Takes (cxOf (L2.CX P w) P w K mg base ["signs", "window", "value", "one"] "is_word" (defScope (top 13)) fa cdv A outer s H E) (fun cls d _ H' => E cls d H')) : PSsM (cxOf (L2.CX P w) P w K mg base ["signs", "window", "value", "one"] "is_word" (defScope (top 13)) fa cdv A outer s H E) (fun cls d _ H' => E cls d H') (defBody (top 13)) m_is_word := by
  have sc := sc_is_word
  exact pssm_one (psm_ret (pm_and (pm_isi FS.b_isinstance (by decide +kernel) FS.b_tuple (by decide +kernel) FS.ri FS.ki_tuple (pm_ref 2)) (pm_and (pm_eq hr.units (pm_toRef (pm_len FS.b_len (pm_ref 2))) (pm_ref 1)) (pm_one (pm_all FS.b_all (pm_toRef (pm_give (pmo_lc (pim_items (pm_var 2)) (fun _ _ _ _ _ => pgm_name 3 sc.nd) (fun _ _ _ _ _ => pmts_nil) (fun _ _ _ _ _ => pm_call G_is_from hr takes0 (pma_cons (pm_var 3) (pma_cons (pm_int) (pma_cons (pm_sub (pm_ref 0) (pm_toRef (pm_int))) (pma_nil)))) (cons_len (cons_len (cons_len nil_len)))) rfl sc.nd [("one", 3)]))))))))
theorem f_is_word {P : Program} {w : World} {K : PySem.W.Frag} {mg : Str → Option Value} {base : Heap} {fa : Addr} {fd : FuncData} (FS : Facts K mg) (G_is_from : Fn P w K mg base "is_from" 1 3 F_is_from) (FD : FunD K "is_word" "is_word" (defArgs (top 13)) (defBody (top 13)) (defScope (top 13)) [] [] fa fd) (hm : mg "is_word" = some (.ref fa)) (hb : Binds K fd ["signs", "window", "value"] []) : Fn P w K mg base "is_word" 2 3 F_is_word := fn_ok FD sc_is_word hm hb rfl rfl fun cdv A outer s H E hr tk => w_is_word FS G_is_from hr tk
/-! Rule.__init__ -/
theorem sc_Rule : FnScope ["self", "signs", "window", "words", "least", "most", "index", "word"] ["self", "signs", "window", "words", "least", "most"] (defScope (inClass (top 16) 0)) := ⟨rfl, rfl, rfl, by decide +kernel, rfl, by decide +kernel, by decide +kernel⟩
theorem w_Rule {P : Program} {w : World} {K : PySem.W.Frag} {mg : Str → Option Value} {base : Heap} (FS : Facts K mg) (G_BadWords : XInit P w K mg base "BadWords" ["index"] 1) (G_check_lengths : Fn P w K mg base "check_lengths" 2 2 F_check_lengths) (G_check_shape : Fn P w K mg base "check_shape" 2 2 F_check_shape) (G_is_word : Fn P w K mg base "is_word" 2 3 F_is_word) {fa : Addr} {cdv : Value} {A : Around} {outer : List PySem.Env} {s : Shared} {H : Hp} {E : XK} (hr : Room 2 (A.deeper (envOfC "Rule.__init__" (defScope (inClass (top 16) 0)) s.heap.objs.size fa cdv))) (tk : Takes (cxOf (L2.CX P w) P w K mg base ["self", "signs", "window", "words", "least", "most", "index", "word"] "Rule.__init__" (defScope (inClass (top 16) 0)) fa cdv A outer s H E) (fun cls d _ H' => E cls d H')) : PSs (cxOf (L2.CX P w) P w K mg base ["self", "signs", "window", "words", "least", "most", "index", "word"] "Rule.__init__" (defScope (inClass (top 16) 0)) fa cdv A outer s H E) (defBody (inClass (top 16) 0)) (fun D' σ H1 => tS w K (fun cls d _ H' => E cls d H') m_Rule { D' with nx := tStores K D' } σ H1) := by
  have sc := sc_Rule
  exact pssi_cons (psm_expr (pm_call G_check_shape hr tk (pma_cons (pm_var 1) (pma_cons (pm_var 2) (pma_nil))) (cons_len (cons_len nil_len))))
      (pssi_cons (psm_if (pmt_not (pmt_val (pm_isi FS.b_isinstance (by decide +kernel) FS.b_tuple (by decide +kernel) FS.ri FS.ki_tuple (pm_ref 3))))
      (pssm_one (psm_raiseX G_BadWords (by decide) hr tk (pma_cons (pm_non) (pma_nil)) (cons_len nil_len)))
      (pssm_nil))
      (pssi_cons (psm_for PassesOwn.leaving rfl (pim_enum FS.b_enumerate (pma_cons (pm_var 3) (pma_nil))) (pgm_tup (pgsm_cons (pgm_name 6 sc.nd) (pgsm_cons (pgm_name 7 sc.nd) (pgsm_nil)))) (gTup_quiet (gsCons_quiet (gN_quiet 6) (gsCons_quiet (gN_quiet 7) (gsNil_quiet))))
      (pssm_one (psm_if (pmt_w (pmw_or (pmt_not (pmt_val (pm_call G_is_word hr tk (pma_cons (pm_var 1) (pma_cons (pm_var 2) (pma_cons (pm_var 7) (pma_nil)))) (cons_len (cons_len (cons_len nil_len)))))) (pmw_or1 (pmt_w (pmw_and (pmt_gt hr.units (pm_ref 6) (pm_toRef (pm_int))) (pmw_and1 (pmt_le hr.units (pm_ref 7) (pm_toRef (pm_ix hr.units (pm_ref 3) (pm_toRef (pm_sub (pm_ref 6) (pm_toRef (pm_int)))))))))))))
      (pssm_one (psm_raiseX G_BadWords (by decide) hr tk (pma_cons (pm_var 6) (pma_nil)) (cons_len nil_len)))
      (pssm_nil))))
      (pssi_cons (psm_expr (pm_call G_check_lengths hr tk (pma_cons (pm_var 4) (pma_cons (pm_var 5) (pma_nil))) (cons_len (cons_len nil_len))))
      (pssi_nil (pss_stores (ps_store1 1 FS.cl FS.na_many) (ps_store1 2 FS.cl FS.na_wide) (ps_store1 3 FS.cl FS.na_rows) (ps_store1 4 FS.cl FS.na_low) (ps_store1 5 FS.cl FS.na_high))))))
theorem f_Rule {P : Program} {w : World} {K : PySem.W.Frag} {mg : Str → Option Value} {base : Heap} {fa : Addr} {fd : FuncData} (FS : Facts K mg) (G_BadWords : XInit P w K mg base "BadWords" ["index"] 1) (G_check_lengths : Fn P w K mg base "check_lengths" 2 2 F_check_lengths) (G_check_shape : Fn P w K mg base "check_shape" 2 2 F_check_shape) (G_is_word : Fn P w K mg base "is_word" 2 3 F_is_word) (FD : FunD K "__init__" "Rule.__init__" (defArgs (inClass (top 16) 0)) (defBody (inClass (top 16) 0)) (defScope (inClass (top 16) 0)) [] [] fa fd) (hm : mg "Rule" = some (.ref (He.ga K "Rule"))) (hb : Binds K fd ["self", "signs", "window", "words", "least", "most"] []) (hk : Mk K (He.ga K "Rule") fa) : MkF P w K mg base 3 F_Rule := mk_ok FD sc_Rule hm hb hk rfl rfl fun cdv A outer s H E hr tk => w_Rule FS G_BadWords G_check_lengths G_check_shape G_is_word hr tk
/-! _law_bad -/
theorem sc__law_bad : FnScope ["_law_words_here", "_law_k", "_law_low", "_law_high", "_law_j"] ["_law_words_here", "_law_k", "_law_low", "_law_high"] (defScope (top 32)) := ⟨rfl, rfl, rfl, by decide +kernel, rfl, by decide +kernel, by decide +kernel⟩
theorem w__law_bad {P : Program} {w : World} {K : PySem.W.Frag} {mg : Str → Option Value} {base : Heap} (FS : Facts K mg) {fa : Addr} {cdv : Value} {A : Around} {outer : List PySem.Env} {s : Shared} {H : Hp} {E : XK} (hr : Room 0 (A.deeper (envOfC "_law_bad" (defScope (top 32)) s.heap.objs.size fa cdv))) (tk : Takes (cxOf (L2.CX P w) P w K mg base ["_law_words_here", "_law_k", "_law_low", "_law_high", "_law_j"] "_law_bad" (defScope (top 32)) fa cdv A outer s H E) (fun cls d _ H' => E cls d H')) : PSsM (cxOf (L2.CX P w) P w K mg base ["_law_words_here", "_law_k", "_law_low", "_law_high", "_law_j"] "_law_bad" (defScope (top 32)) fa cdv A outer s H E) (fun cls d _ H' => E cls d H') (defBody (top 32)) m__law_bad := by
  have sc := sc__law_bad
  exact pssm_one (psm_ret (pm_or (pm_le hr.units (pm_toRef (pm_len FS.b_len (pm_ref 0))) (pm_ref 1)) (pm_one (pm_notin (u65 hr) (pm_toRef (pm_ix hr.units (pm_ref 0) (pm_ref 1))) (pm_toRef (pm_give (pmo_lc (pim_range2 FS.b_range (pma_cons (pm_var 2) (pma_cons (pm_add (pm_ref 3) (pm_toRef (pm_int))) (pma_nil)))) (fun _ _ _ _ _ => pgm_name 4 sc.nd) (fun _ _ _ _ _ => pmts_nil) (fun _ _ _ _ _ => pm_toStr FS.b_str (pm_ref 4)) rfl sc.nd [("_law_j", 4)])))))))
theorem f__law_bad {P : Program} {w : World} {K : PySem.W.Frag} {mg : Str → Option Value} {base : Heap} {fa : Addr} {fd : FuncData} (FS : Facts K mg) (FD : FunD K "_law_bad" "_law_bad" (defArgs (top 32)) (defBody (top 32)) (defScope (top 32)) [] [] fa fd) (hm : mg "_law_bad" = some (.ref fa)) (hb : Binds K fd ["_law_words_here", "_law_k", "_law_low", "_law_high"] []) : Fn P w K mg base "_law_bad" 1 4 F__law_bad := fn_ok FD sc__law_bad hm hb rfl rfl fun cdv A outer s H E hr tk => w__law_bad FS hr tk
/-! _law_fault -/
theorem sc__law_fault : FnScope ["_law_words_here", "_law_signs", "_law_window", "_law_last", "_law_k", "_law_word"] ["_law_words_here", "_law_signs", "_law_window", "_law_last"] (defScope (top 34)) := ⟨rfl, rfl, rfl, by decide +kernel, rfl, by decide +kernel, by decide +kernel⟩
theorem w__law_fault {P : Program} {w : World} {K : PySem.W.Frag} {mg : Str → Option Value} {base : Heap} (FS : Facts K mg) (G__law_bad : Fn P w K mg base "_law_bad" 1 4 F__law_bad) {fa : Addr} {cdv : Value} {A : Around} {outer : List PySem.Env} {s : Shared} {H : Hp} {E : XK} (hr : Room 1 (A.deeper (envOfC "_law_fault" (defScope (top 34)) s.heap.objs.size fa cdv))) (tk : Takes (cxOf (L2.CX P w) P w K mg base ["_law_words_here", "_law_signs", "_law_window", "_law_last", "_law_k", "_law_word"] "_law_fault" (defScope (top 34)) fa cdv A outer s H E) (fun cls d _ H' => E cls d H')) : PSsM (cxOf (L2.CX P w) P w K mg base ["_law_words_here", "_law_signs", "_law_window", "_law_last", "_law_k", "_law_word"] "_law_fault" (defScope (top 34)) fa cdv A outer s H E) (fun cls d _ H' => E cls d H') (defBody (top 34)) m__law_fault := by
  have sc := sc__law_fault
  exact pssm_cons (psm_if (pmt_w (pmw_or (pmt_eq hr.units (pm_ref 0) (pm_toRef (pm_give (pmo_lst (pma_nil))))) (pmw_or1 (pmt_ne hr.units (pm_toRef (pm_ix hr.units (pm_ref 0) (pm_toRef (pm_int)))) (pm_toRef (pm_str))))))
      (pssm_one (psm_ret (pm_int)))
      (pssm_nil))
      (pssm_cons (psm_for PassesOwn.leaving rfl (pim_range2 FS.b_range (pma_cons (pm_int) (pma_cons (pm_add (pm_ref 2) (pm_toRef (pm_int))) (pma_nil)))) (pgm_name 4 sc.nd) (gN_quiet 4)
      (pssm_one (psm_if (pmt_val (pm_call G__law_bad hr tk (pma_cons (pm_var 0) (pma_cons (pm_var 4) (pma_cons (pm_int) (pma_cons (pm_sub (pm_ref 1) (pm_toRef (pm_int))) (pma_nil))))) (cons_len (cons_len (cons_len (cons_len nil_len))))))
      (pssm_one (psm_ret (pm_add (pm_ref 4) (pm_toRef (pm_int)))))
      (pssm_nil))))
      (pssm_cons (psm_if (pmt_gt hr.units (pm_toRef (pm_len FS.b_len (pm_ref 0))) (pm_toRef (pm_add (pm_ref 2) (pm_toRef (pm_int)))))
      (pssm_one (psm_ret (pm_add (pm_ref 2) (pm_toRef (pm_int)))))
      (pssm_nil))
      (pssm_one (psm_ret (pm_ifExp (pmt_w (pmw_and (pmt_notN (pm_ref 3)) (pmw_and1 (pmt_le hr.units (pm_toRef (pm_tupleOf FS.b_tuple (by decide +kernel) (pm_toRef (pm_give (pmo_lc (pim_items (pm_slice (pm_ref 0) (pmp_some (pm_int)) (pmp_none))) (fun _ _ _ _ _ => pgm_name 5 sc.nd) (fun _ _ _ _ _ => pmts_nil) (fun _ _ _ _ _ => pm_intT FS.b_int (pm_ref 5)) rfl sc.nd [("_law_word", 5)]))))) (pm_ref 3))))) (pm_int) (pm_non))))))
theorem f__law_fault {P : Program} {w : World} {K : PySem.W.Frag} {mg : Str → Option Value} {base : Heap} {fa : Addr} {fd : FuncData} (FS : Facts K mg) (G__law_bad : Fn P w K mg base "_law_bad" 1 4 F__law_bad) (FD : FunD K "_law_fault" "_law_fault" (defArgs (top 34)) (defBody (top 34)) (defScope (top 34)) [] [] fa fd) (hm : mg "_law_fault" = some (.ref fa)) (hb : Binds K fd ["_law_words_here", "_law_signs", "_law_window", "_law_last"] []) : Fn P w K mg base "_law_fault" 2 4 F__law_fault := fn_ok FD sc__law_fault hm hb rfl rfl fun cdv A outer s H E hr tk => w__law_fault FS G__law_bad hr tk
/-! _law_first -/
theorem sc__law_first : FnScope ["_law_words_here"] ["_law_words_here"] (defScope (top 33)) := ⟨rfl, rfl, rfl, by decide +kernel, rfl, by decide +kernel, by decide +kernel⟩
theorem w__law_first {P : Program} {w : World} {K : PySem.W.Frag} {mg : Str → Option Value} {base : Heap} (FS : Facts K mg) (G__law_bad : Fn P w K mg base "_law_bad" 1 4 F__law_bad) {fa : Addr} {cdv : Value} {A : Around} {outer : List PySem.Env} {s : Shared} {H : Hp} {E : XK} (hr : Room 1 (A.deeper (envOfC "_law_first" (defScope (top 33)) s.heap.objs.size fa cdv))) (tk : Takes (cxOf (L2.CX P w) P w K mg base ["_law_words_here"] "_law_first" (defScope (top 33)) fa cdv A outer s H E) (fun cls d _ H' => E cls d H')) : PSsM (cxOf (L2.CX P w) P w K mg base ["_law_words_here"] "_law_first" (defScope (top 33)) fa cdv A outer s H E) (fun cls d _ H' => E cls d H') (defBody (top 33)) m__law_first := by
  have sc := sc__law_first
  exact pssm_cons (psm_if (pmt_w (pmw_or (pmt_eq hr.units (pm_ref 0) (pm_toRef (pm_give (pmo_lst (pma_nil))))) (pmw_or1 (pmt_ne hr.units (pm_toRef (pm_ix hr.units (pm_ref 0) (pm_toRef (pm_int)))) (pm_toRef (pm_str))))))
      (pssm_one (psm_ret (pm_int)))
      (pssm_nil))
      (pssm_cons (psm_if (pmt_val (pm_call G__law_bad hr tk (pma_cons (pm_var 0) (pma_cons (pm_int) (pma_cons (pm_int) (pma_cons (pm_int) (pma_nil))))) (cons_len (cons_len (cons_len (cons_len nil_len))))))
      (pssm_one (psm_ret (pm_int)))
      (pssm_nil))
      (pssm_cons (psm_if (pmt_val (pm_call G__law_bad hr tk (pma_cons (pm_var 0) (pma_cons (pm_int) (pma_cons (pm_int) (pma_cons (pm_int) (pma_nil))))) (cons_len (cons_len (cons_len (cons_len nil_len))))))
      (pssm_one (psm_ret (pm_int)))
      (pssm_nil))
      (pssm_cons (psm_if (pmt_val (pm_call G__law_bad hr tk (pma_cons (pm_var 0) (pma_cons (pm_int) (pma_cons (pm_int) (pma_cons (pm_int) (pma_nil))))) (cons_len (cons_len (cons_len (cons_len nil_len))))))
      (pssm_one (psm_ret (pm_int)))
      (pssm_nil))
      (pssm_cons (psm_if (pmt_w (pmw_and (pmt_val (pm_call G__law_bad hr tk (pma_cons (pm_var 0) (pma_cons (pm_int) (pma_cons (pm_intT FS.b_int (pm_toRef (pm_ix hr.units (pm_ref 0) (pm_toRef (pm_int))))) (pma_cons (pm_int) (pma_nil))))) (cons_len (cons_len (cons_len (cons_len nil_len)))))) (pmw_and1 (pmt_ne hr.units (pm_toRef (pm_slice (pm_ref 0) (pmp_some (pm_int)) (pmp_some (pm_int)))) (pm_toRef (pm_give (pmo_lst (pma_cons (pm_str) (pma_nil)))))))))
      (pssm_one (psm_ret (pm_int)))
      (pssm_nil))
      (pssm_one (psm_ret (pm_ifExp (pmt_gt hr.units (pm_toRef (pm_len FS.b_len (pm_ref 0))) (pm_toRef (pm_int))) (pm_int) (pm_non))))))))
theorem f__law_first {P : Program} {w : World} {K : PySem.W.Frag} {mg : Str → Option Value} {base : Heap} {fa : Addr} {fd : FuncData} (FS : Facts K mg) (G__law_bad : Fn P w K mg base "_law_bad" 1 4 F__law_bad) (FD : FunD K "_law_first" "_law_first" (defArgs (top 33)) (defBody (top 33)) (defScope (top 33)) [] [] fa fd) (hm : mg "_law_first" = some (.ref fa)) (hb : Binds K fd ["_law_words_here"] []) : Fn P w K mg base "_law_first" 2 1 F__law_first := fn_ok FD sc__law_first hm hb rfl rfl fun cdv A outer s H E hr tk => w__law_first FS G__law_bad hr tk
/-! _law_due -/
theorem sc__law_due : FnScope ["_law_text", "_law_k", "_law_head", "_law_found", "_law_lines_here", "_law_words_here", "_law_fault_here", "_law_word"] ["_law_text"] (defScope (top 35)) := ⟨rfl, rfl, rfl, by decide +kernel, rfl, by decide +kernel, by decide +kernel⟩
theorem w__law_due {P : Program} {w : World} {K : PySem.W.Frag} {mg : Str → Option Value} {base : Heap} (FS : Facts K mg) (G_Rule : MkF P w K mg base 3 F_Rule) (G__law_fault : Fn P w K mg base "_law_fault" 2 4 F__law_fault) (G__law_first : Fn P w K mg base "_law_first" 2 1 F__law_first) {fa : Addr} {cdv : Value} {A : Around} {outer : List PySem.Env} {s : Shared} {H : Hp} {E : XK} (hr : Room 4 (A.deeper (envOfC "_law_due" (defScope (top 35)) s.heap.objs.size fa cdv))) (tk : Takes (cxOf (L2.CX P w) P w K mg base ["_law_text", "_law_k", "_law_head", "_law_found", "_law_lines_here", "_law_words_here", "_law_fault_here", "_law_word"] "_law_due" (defScope (top 35)) fa cdv A outer s H E) (fun cls d _ H' => E cls d H')) : PSsM (cxOf (L2.CX P w) P w K mg base ["_law_text", "_law_k", "_law_head", "_law_found", "_law_lines_here", "_law_words_here", "_law_fault_here", "_law_word"] "_law_due" (defScope (top 35)) fa cdv A outer s H E) (fun cls d _ H' => E cls d H') (defBody (top 35)) m__law_due := by
  have sc := sc__law_due
  exact pssm_cons (psm_par3 2 3 4 (pml_val (pm_non) (pml_own (pmo_lst (pma_nil)) (pml_val (pm_give (pmo_split (pm_var 0) (pm_toRef (pm_str)))) (pml_nil)))) sc.nd)
      (pssm_cons (psm_for PassesOwn.leaving rfl (pim_range1 FS.b_range (pma_cons (pm_len FS.b_len (pm_ref 4)) (pma_nil))) (pgm_name 1 sc.nd) (gN_quiet 1)
      (pssm_cons (psm_setLc 5 (pim_items (pm_give (pmo_split (pm_ix hr.units (pm_ref 4) (pm_ref 1)) (pm_toRef (pm_str))))) (fun _ _ _ _ _ => pgm_name 7 sc.nd) (fun _ _ _ _ _ => pmts_one (pmt_ne hr.units (pm_ref 7) (pm_toRef (pm_str)))) (fun _ _ _ _ _ => pm_var 7) rfl sc.nd [("_law_word", 7)])
      (pssm_cons (psm_if (pmt_eq hr.units (pm_ref 1) (pm_toRef (pm_int)))
      (pssm_one (psm_set 6 (pm_call G__law_first hr tk (pma_cons (pm_var 5) (pma_nil)) (cons_len nil_len)) sc.nd))
      (pssm_one (psm_set 6 (pm_call G__law_fault hr tk (pma_cons (pm_var 5) (pma_cons (pm_ix hr.units (pm_ref 2) (pm_toRef (pm_int))) (pma_cons (pm_ix hr.units (pm_ref 2) (pm_toRef (pm_int))) (pma_cons (pm_ifExp (pmt_ne hr.units (pm_ref 3) (pm_toRef (pm_give (pmo_lst (pma_nil))))) (pm_ix hr.units (pm_ref 3) (pm_toRef (pm_neg (pm_int)))) (pm_non)) (pma_nil))))) (cons_len (cons_len (cons_len (cons_len nil_len))))) sc.nd)))
      (pssm_cons (psm_if (pmt_notN (pm_ref 6))
      (pssm_one (psm_ret (pm_give (pmo_lst (pma_cons (pm_str) (pma_cons (pm_add (pm_ref 1) (pm_toRef (pm_int))) (pma_cons (pm_var 6) (pma_nil))))))))
      (pssm_nil))
      (pssm_one (psm_if (pmt_eq hr.units (pm_ref 1) (pm_toRef (pm_int)))
      (pssm_one (psm_set 2 (pm_give (pmo_lst (pma_cons (pm_intT FS.b_int (pm_toRef (pm_ix hr.units (pm_ref 5) (pm_toRef (pm_int))))) (pma_cons (pm_intT FS.b_int (pm_toRef (pm_ix hr.units (pm_ref 5) (pm_toRef (pm_int))))) (pma_cons (pm_intT FS.b_int (pm_toRef (pm_ix hr.units (pm_ref 5) (pm_toRef (pm_int))))) (pma_cons (pm_ifExp (pmt_eq hr.units (pm_toRef (pm_ix hr.units (pm_ref 5) (pm_toRef (pm_int)))) (pm_toRef (pm_str))) (pm_non) (pm_intT FS.b_int (pm_toRef (pm_ix hr.units (pm_ref 5) (pm_toRef (pm_int)))))) (pma_nil))))))) sc.nd))
      (pssm_one (psm_append 3 (pm_tupleOf FS.b_tuple (by decide +kernel) (pm_toRef (pm_give (pmo_lc (pim_items (pm_slice (pm_ref 5) (pmp_some (pm_int)) (pmp_none))) (fun _ _ _ _ _ => pgm_name 7 sc.nd) (fun _ _ _ _ _ => pmts_nil) (fun _ _ _ _ _ => pm_intT FS.b_int (pm_ref 7)) rfl sc.nd [("_law_word", 7)]))))))))))))
      (pssm_one (psm_ret (pm_make G_Rule hr tk (pma_cons (pm_ix hr.units (pm_ref 2) (pm_toRef (pm_int))) (pma_cons (pm_ix hr.units (pm_ref 2) (pm_toRef (pm_int))) (pma_cons (pm_tupleOf FS.b_tuple (by decide +kernel) (pm_ref 3)) (pma_cons (pm_ix hr.units (pm_ref 2) (pm_toRef (pm_int))) (pma_cons (pm_ix hr.units (pm_ref 2) (pm_toRef (pm_int))) (pma_nil)))))) (cons_len (cons_len (cons_len (cons_len (cons_len nil_len))))) (fun _ _ _ _ h => initM_ret h)))))
theorem f__law_due {P : Program} {w : World} {K : PySem.W.Frag} {mg : Str → Option Value} {base : Heap} {fa : Addr} {fd : FuncData} (FS : Facts K mg) (G_Rule : MkF P w K mg base 3 F_Rule) (G__law_fault : Fn P w K mg base "_law_fault" 2 4 F__law_fault) (G__law_first : Fn P w K mg base "_law_first" 2 1 F__law_first) (FD : FunD K "_law_due" "_law_due" (defArgs (top 35)) (defBody (top 35)) (defScope (top 35)) [] [] fa fd) (hm : mg "_law_due" = some (.ref fa)) (hb : Binds K fd ["_law_text"] []) : Fn P w K mg base "_law_due" 5 1 F__law_due := fn_ok FD sc__law_due hm hb rfl rfl fun cdv A outer s H E hr tk => w__law_due FS G_Rule G__law_fault G__law_first hr tk
/-! _law_lines -/
theorem sc__law_lines : FnScope ["_law_r", "_law_most", "_law_lines_here", "_law_word", "_law_sign"] ["_law_r"] (defScope (top 31)) := ⟨rfl, rfl, rfl, by decide +kernel, rfl, by decide +kernel, by decide +kernel⟩
theorem w__law_lines {P : Program} {w : World} {K : PySem.W.Frag} {mg : Str → Option Value} {base : Heap} (FS : Facts K mg) {fa : Addr} {cdv : Value} {A : Around} {outer : List PySem.Env} {s : Shared} {H : Hp} {E : XK} (hr : Room 0 (A.deeper (envOfC "_law_lines" (defScope (top 31)) s.heap.objs.size fa cdv))) (tk : Takes (cxOf (L2.CX P w) P w K mg base ["_law_r", "_law_most", "_law_lines_here", "_law_word", "_law_sign"] "_law_lines" (defScope (top 31)) fa cdv A outer s H E) (fun cls d _ H' => E cls d H')) : PSsM (cxOf (L2.CX P w) P w K mg base ["_law_r", "_law_most", "_law_lines_here", "_law_word", "_law_sign"] "_law_lines" (defScope (top 31)) fa cdv A outer s H E) (fun cls d _ H' => E cls d H') (defBody (top 31)) m__law_lines := by
  have sc := sc__law_lines
  exact pssm_cons (psm_set 1 (pm_ifExp (pmt_isN (pm_toRef (pm_ix hr.units (pm_ref 0) (pm_toRef (pm_int))))) (pm_str) (pm_toStr FS.b_str (pm_toRef (pm_ix hr.units (pm_ref 0) (pm_toRef (pm_int)))))) sc.nd)
      (pssm_cons (psm_setO 2 (pmo_lst (pma_cons (pm_join (pm_str) (pm_toRef (pm_give (pmo_lst (pma_cons (pm_str) (pma_cons (pm_toStr FS.b_str (pm_toRef (pm_ix hr.units (pm_ref 0) (pm_toRef (pm_int))))) (pma_cons (pm_toStr FS.b_str (pm_toRef (pm_ix hr.units (pm_ref 0) (pm_toRef (pm_int))))) (pma_cons (pm_toStr FS.b_str (pm_toRef (pm_ix hr.units (pm_ref 0) (pm_toRef (pm_int))))) (pma_cons (pm_var 1) (pma_nil)))))))))) (pma_nil))) sc.nd)
      (pssm_cons (psm_for PassesOwn.leaving rfl (pim_items (pm_ix hr.units (pm_ref 0) (pm_toRef (pm_int)))) (pgm_name 3 sc.nd) (gN_quiet 3)
      (pssm_one (psm_append 2 (pm_join (pm_str) (pm_toRef (pm_add (pm_toRef (pm_give (pmo_lst (pma_cons (pm_str) (pma_nil))))) (pm_toRef (pm_give (pmo_lc (pim_items (pm_var 3)) (fun _ _ _ _ _ => pgm_name 4 sc.nd) (fun _ _ _ _ _ => pmts_nil) (fun _ _ _ _ _ => pm_toStr FS.b_str (pm_ref 4)) rfl sc.nd [("_law_sign", 4)])))))))))
      (pssm_one (psm_ret (pm_var 2)))))
theorem f__law_lines {P : Program} {w : World} {K : PySem.W.Frag} {mg : Str → Option Value} {base : Heap} {fa : Addr} {fd : FuncData} (FS : Facts K mg) (FD : FunD K "_law_lines" "_law_lines" (defArgs (top 31)) (defBody (top 31)) (defScope (top 31)) [] [] fa fd) (hm : mg "_law_lines" = some (.ref fa)) (hb : Binds K fd ["_law_r"] []) : Fn P w K mg base "_law_lines" 1 1 F__law_lines := fn_ok FD sc__law_lines hm hb rfl rfl fun cdv A outer s H E hr tk => w__law_lines FS hr tk
/-! _law_pick -/
theorem sc__law_pick : FnScope ["_law_row", "_law_many", "_law_found", "_law_cell"] ["_law_row", "_law_many"] (defScope (top 28)) := ⟨rfl, rfl, rfl, by decide +kernel, rfl, by decide +kernel, by decide +kernel⟩
theorem w__law_pick {P : Program} {w : World} {K : PySem.W.Frag} {mg : Str → Option Value} {base : Heap} (FS : Facts K mg) {fa : Addr} {cdv : Value} {A : Around} {outer : List PySem.Env} {s : Shared} {H : Hp} {E : XK} (hr : Room 0 (A.deeper (envOfC "_law_pick" (defScope (top 28)) s.heap.objs.size fa cdv))) (tk : Takes (cxOf (L2.CX P w) P w K mg base ["_law_row", "_law_many", "_law_found", "_law_cell"] "_law_pick" (defScope (top 28)) fa cdv A outer s H E) (fun cls d _ H' => E cls d H')) : PSsM (cxOf (L2.CX P w) P w K mg base ["_law_row", "_law_many", "_law_found", "_law_cell"] "_law_pick" (defScope (top 28)) fa cdv A outer s H E) (fun cls d _ H' => E cls d H') (defBody (top 28)) m__law_pick := by
  have sc := sc__law_pick
  exact pssm_cons (psm_if (pmt_eq hr.units (pm_toRef (pm_row 0 2)) (pm_toRef (pm_int)))
      (pssm_one (psm_if (pmt_lt hr.units (pm_toRef (pm_row 0 1)) (pm_toRef (pm_len FS.b_len (pm_toRef (pm_row 0 0)))))
      (pssm_cons (psm_set 3 (pm_ix hr.units (pm_toRef (pm_row 0 0)) (pm_toRef (pm_row 0 1))) sc.nd)
      (pssm_cons (psm_row 0 1 (pm_add (pm_toRef (pm_row 0 1)) (pm_toRef (pm_int))))
      (pssm_one (psm_if (pmt_ge (pm_ref 3) (pm_toRef (pm_pow (pm_toRef (pm_int)) (pm_toRef (pm_int)))))
      (pssm_one (psm_row 0 2 (pm_var 3)))
      (pssm_one (psm_row 0 3 (pm_mod (pm_toRef (pm_toInt FS.b_int (pm_toRef (pm_add (pm_toRef (pm_add (pm_toRef (pm_mul (pm_toRef (pm_row 0 3)) (pm_toRef (pm_int)))) (pm_toRef (pm_mul (pm_ref 3) (pm_toRef (pm_int)))))) (pm_toRef (pm_int)))))) (pm_toRef (pm_int)))))))))
      (pssm_one (psm_row 0 3 (pm_mod (pm_toRef (pm_toInt FS.b_int (pm_toRef (pm_add (pm_toRef (pm_mul (pm_toRef (pm_row 0 3)) (pm_toRef (pm_int)))) (pm_toRef (pm_int)))))) (pm_toRef (pm_int)))))))
      (pssm_nil))
      (pssm_cons (psm_if (pmt_gt hr.units (pm_toRef (pm_row 0 2)) (pm_toRef (pm_int)))
      (pssm_cons (psm_set 2 (pm_mod (pm_toRef (pm_toInt FS.b_int (pm_toRef (pm_row 0 2)))) (pm_ref 1)) sc.nd)
      (pssm_cons (psm_row 0 2 (pm_fdiv (pm_toRef (pm_row 0 2)) (pm_ref 1)))
      (pssm_one (psm_ret (pm_var 2)))))
      (pssm_nil))
      (pssm_one (psm_ret (pm_mod (pm_toRef (pm_mod (pm_toRef (pm_toInt FS.b_int (pm_toRef (pm_mul (pm_toRef (pm_row 0 3)) (pm_toRef (pm_int)))))) (pm_toRef (pm_int)))) (pm_ref 1)))))
theorem f__law_pick {P : Program} {w : World} {K : PySem.W.Frag} {mg : Str → Option Value} {base : Heap} {fa : Addr} {fd : FuncData} (FS : Facts K mg) (FD : FunD K "_law_pick" "_law_pick" (defArgs (top 28)) (defBody (top 28)) (defScope (top 28)) [] [] fa fd) (hm : mg "_law_pick" = some (.ref fa)) (hb : Binds K fd ["_law_row", "_law_many"] []) : Fn P w K mg base "_law_pick" 1 2 F__law_pick := fn_ok FD sc__law_pick hm hb rfl rfl fun cdv A outer s H E hr tk => w__law_pick FS hr tk
/-! _law_words -/
theorem sc__law_words : FnScope ["_law_signs", "_law_window", "_law_found", "_law_k", "_law_longer", "_law_one", "_law_sign"] ["_law_signs", "_law_window"] (defScope (top 29)) := ⟨rfl, rfl, rfl, by decide +kernel, rfl, by decide +kernel, by decide +kernel⟩
theorem w__law_words {P : Program} {w : World} {K : PySem.W.Frag} {mg : Str → Option Value} {base : Heap} (FS : Facts K mg) {fa : Addr} {cdv : Value} {A : Around} {outer : List PySem.Env} {s : Shared} {H : Hp} {E : XK} (hr : Room 0 (A.deeper (envOfC "_law_words" (defScope (top 29)) s.heap.objs.size fa cdv))) (tk : Takes (cxOf (L2.CX P w) P w K mg base ["_law_signs", "_law_window", "_law_found", "_law_k", "_law_longer", "_law_one", "_law_sign"] "_law_words" (defScope (top 29)) fa cdv A outer s H E) (fun cls d _ H' => E cls d H')) : PSsM (cxOf (L2.CX P w) P w K mg base ["_law_signs", "_law_window", "_law_found", "_law_k", "_law_longer", "_law_one", "_law_sign"] "_law_words" (defScope (top 29)) fa cdv A outer s H E) (fun cls d _ H' => E cls d H') (defBody (top 29)) m__law_words := by
  have sc := sc__law_words
  exact pssm_cons (psm_set 2 (pm_give (pmo_lst (pma_cons (pm_tup (pma_nil)) (pma_nil)))) sc.nd)
      (pssm_cons (psm_for PassesOwn.leaving rfl (pim_range1 FS.b_range (pma_cons (pm_var 1) (pma_nil))) (pgm_name 3 sc.nd) (gN_quiet 3)
      (pssm_cons (psm_set 4 (pm_give (pmo_lst (pma_nil))) sc.nd)
      (pssm_cons (psm_for PassesOwn.leaving rfl (pim_items (pm_var 2)) (pgm_name 5 sc.nd) (gN_quiet 5)
      (pssm_one (psm_set 4 (pm_add (pm_ref 4) (pm_toRef (pm_give (pmo_lc (pim_range1 FS.b_range (pma_cons (pm_var 0) (pma_nil))) (fun _ _ _ _ _ => pgm_name 6 sc.nd) (fun _ _ _ _ _ => pmts_nil) (fun _ _ _ _ _ => pm_add (pm_ref 5) (pm_toRef (pm_tup (pma_cons (pm_var 6) (pma_nil))))) rfl sc.nd [("_law_sign", 6)])))) sc.nd)))
      (pssm_one (psm_set 2 (pm_var 4) sc.nd)))))
      (pssm_one (psm_ret (pm_var 2))))
theorem f__law_words {P : Program} {w : World} {K : PySem.W.Frag} {mg : Str → Option Value} {base : Heap} {fa : Addr} {fd : FuncData} (FS : Facts K mg) (FD : FunD K "_law_words" "_law_words" (defArgs (top 29)) (defBody (top 29)) (defScope (top 29)) [] [] fa fd) (hm : mg "_law_words" = some (.ref fa)) (hb : Binds K fd ["_law_signs", "_law_window"] []) : Fn P w K mg base "_law_words" 1 2 F__law_words := fn_ok FD sc__law_words hm hb rfl rfl fun cdv A outer s H E hr tk => w__law_words FS hr tk
/-! _law_rule -/
theorem sc__law_rule : FnScope ["_law_row", "_law_signs", "_law_window", "_law_most", "_law_many", "_law_wide", "_law_thin", "_law_words_here", "_law_least", "_law_high", "_law_word"] ["_law_row", "_law_signs", "_law_window", "_law_most"] (defScope (top 30)) := ⟨rfl, rfl, rfl, by decide +kernel, rfl, by decide +kernel, by decide +kernel⟩
theorem w__law_rule {P : Program} {w : World} {K : PySem.W.Frag} {mg : Str → Option Value} {base : Heap} (FS : Facts K mg) (G__law_pick : Fn P w K mg base "_law_pick" 1 2 F__law_pick) (G__law_words : Fn P w K mg base "_law_words" 1 2 F__law_words) {fa : Addr} {cdv : Value} {A : Around} {outer : List PySem.Env} {s : Shared} {H : Hp} {E : XK} (hr : Room 1 (A.deeper (envOfC "_law_rule" (defScope (top 30)) s.heap.objs.size fa cdv))) (tk : Takes (cxOf (L2.CX P w) P w K mg base ["_law_row", "_law_signs", "_law_window", "_law_most", "_law_many", "_law_wide", "_law_thin", "_law_words_here", "_law_least", "_law_high", "_law_word"] "_law_rule" (defScope (top 30)) fa cdv A outer s H E) (fun cls d _ H' => E cls d H')) : PSsM (cxOf (L2.CX P w) P w K mg base ["_law_row", "_law_signs", "_law_window", "_law_most", "_law_many", "_law_wide", "_law_thin", "_law_words_here", "_law_least", "_law_high", "_law_word"] "_law_rule" (defScope (top 30)) fa cdv A outer s H E) (fun cls d _ H' => E cls d H') (defBody (top 30)) m__law_rule := by
  have sc := sc__law_rule
  exact pssm_cons (psm_set 4 (pm_add (pm_toRef (pm_int)) (pm_toRef (pm_mul (pm_toRef (pm_toInt FS.b_int (pm_toRef (pm_eq hr.units (pm_toRef (pm_call G__law_pick hr tk (pma_cons (pm_var 0) (pma_cons (pm_int) (pma_nil))) (cons_len (cons_len nil_len)))) (pm_toRef (pm_int)))))) (pm_toRef (pm_sub (pm_ref 1) (pm_toRef (pm_int))))))) sc.nd)
      (pssm_cons (psm_set 5 (pm_add (pm_toRef (pm_int)) (pm_toRef (pm_call G__law_pick hr tk (pma_cons (pm_var 0) (pma_cons (pm_var 2) (pma_nil))) (cons_len (cons_len nil_len))))) sc.nd)
      (pssm_cons (psm_set 6 (pm_add (pm_toRef (pm_int)) (pm_toRef (pm_call G__law_pick hr tk (pma_cons (pm_var 0) (pma_cons (pm_int) (pma_nil))) (cons_len (cons_len nil_len))))) sc.nd)
      (pssm_cons (psm_set 7 (pm_tupleOf FS.b_tuple (by decide +kernel) (pm_toRef (pm_give (pmo_lc (pim_items (pm_call G__law_words hr tk (pma_cons (pm_var 4) (pma_cons (pm_var 5) (pma_nil))) (cons_len (cons_len nil_len)))) (fun _ _ _ _ _ => pgm_name 10 sc.nd) (fun _ _ _ _ _ => pmts_one (pmt_eq hr.units (pm_toRef (pm_call G__law_pick hr takes0 (pma_cons (pm_var 0) (pma_cons (pm_var 6) (pma_nil))) (cons_len (cons_len nil_len)))) (pm_toRef (pm_int)))) (fun _ _ _ _ _ => pm_var 10) rfl sc.nd [("_law_word", 10)])))) sc.nd)
      (pssm_cons (psm_set 8 (pm_add (pm_toRef (pm_int)) (pm_toRef (pm_call G__law_pick hr tk (pma_cons (pm_var 0) (pma_cons (pm_int) (pma_nil))) (cons_len (cons_len nil_len))))) sc.nd)
      (pssm_cons (psm_set 9 (pm_add (pm_ref 8) (pm_toRef (pm_call G__law_pick hr tk (pma_cons (pm_var 0) (pma_cons (pm_sub (pm_ref 3) (pm_toRef (pm_int))) (pma_nil))) (cons_len (cons_len nil_len))))) sc.nd)
      (pssm_one (psm_ret (pm_tup (pma_cons (pm_var 4) (pma_cons (pm_var 5) (pma_cons (pm_var 7) (pma_cons (pm_var 8) (pma_cons (pm_ix hr.units (pm_toRef (pm_give (pmo_lst (pma_cons (pm_non) (pma_cons (pm_var 9) (pma_nil)))))) (pm_toRef (pm_call G__law_pick hr tk (pma_cons (pm_var 0) (pma_cons (pm_int) (pma_nil))) (cons_len (cons_len nil_len))))) (pma_nil))))))))))))))
theorem f__law_rule {P : Program} {w : World} {K : PySem.W.Frag} {mg : Str → Option Value} {base : Heap} {fa : Addr} {fd : FuncData} (FS : Facts K mg) (G__law_pick : Fn P w K mg base "_law_pick" 1 2 F__law_pick) (G__law_words : Fn P w K mg base "_law_words" 1 2 F__law_words) (FD : FunD K "_law_rule" "_law_rule" (defArgs (top 30)) (defBody (top 30)) (defScope (top 30)) [] [] fa fd) (hm : mg "_law_rule" = some (.ref fa)) (hb : Binds K fd ["_law_row", "_law_signs", "_law_window", "_law_most"] []) : Fn P w K mg base "_law_rule" 2 4 F__law_rule := fn_ok FD sc__law_rule hm hb rfl rfl fun cdv A outer s H E hr tk => w__law_rule FS G__law_pick G__law_words hr tk
/-! _law_spoilt -/
theorem sc__law_spoilt : FnScope ["_law_row", "_law_line", "_law_words_here", "_law_odd", "_law_at", "_law_turn_of"] ["_law_row", "_law_line"] (defScope (top 37)) := ⟨rfl, rfl, rfl, by decide +kernel, rfl, by decide +kernel, by decide +kernel⟩
theorem w__law_spoilt {P : Program} {w : World} {K : PySem.W.Frag} {mg : Str → Option Value} {base : Heap} (FS : Facts K mg) (G__law_pick : Fn P w K mg base "_law_pick" 1 2 F__law_pick) {fa : Addr} {cdv : Value} {A : Around} {outer : List PySem.Env} {s : Shared} {H : Hp} {E : XK} (hr : Room 1 (A.deeper (envOfC "_law_spoilt" (defScope (top 37)) s.heap.objs.size fa cdv))) (tk : Takes (cxOf (L2.CX P w) P w K mg base ["_law_row", "_law_line", "_law_words_here", "_law_odd", "_law_at", "_law_turn_of"] "_law_spoilt" (defScope (top 37)) fa cdv A outer s H E) (fun cls d _ H' => E cls d H')) : PSsM (cxOf (L2.CX P w) P w K mg base ["_law_row", "_law_line", "_law_words_here", "_law_odd", "_law_at", "_law_turn_of"] "_law_spoilt" (defScope (top 37)) fa cdv A outer s H E) (fun cls d _ H' => E cls d H') (defBody (top 37)) m__law_spoilt := by
  have sc := sc__law_spoilt
  exact pssm_cons (psm_set 2 (pm_give (pmo_split (pm_var 1) (pm_toRef (pm_str)))) sc.nd)
      (pssm_cons (psm_par2 4 5 (pml_val (pm_call G__law_pick hr tk (pma_cons (pm_var 0) (pma_cons (pm_len FS.b_len (pm_ref 2)) (pma_nil))) (cons_len (cons_len nil_len))) (pml_val (pm_call G__law_pick hr tk (pma_cons (pm_var 0) (pma_cons (pm_int) (pma_nil))) (cons_len (cons_len nil_len))) (pml_nil))) sc.nd)
      (pssm_cons (psm_set 3 (pm_give (pmo_lst (pma_cons (pm_str) (pma_cons (pm_str) (pma_cons (pm_str) (pma_cons (pm_str) (pma_cons (pm_str) (pma_cons (pm_str) (pma_cons (pm_str) (pma_cons (pm_str) (pma_cons (pm_str) (pma_cons (pm_str) (pma_cons (pm_str) (pma_cons (pm_str) (pma_cons (pm_str) (pma_cons (pm_str) (pma_cons (pm_str) (pma_cons (pm_str) (pma_nil))))))))))))))))))) sc.nd)
      (pssm_cons (psm_if (pmt_eq hr.units (pm_ref 5) (pm_toRef (pm_int)))
      (pssm_one (psm_ret (pm_join (pm_str) (pm_toRef (pm_add (pm_toRef (pm_slice (pm_ref 2) (pmp_none) (pmp_some (pm_var 4)))) (pm_toRef (pm_slice (pm_ref 2) (pmp_some (pm_add (pm_ref 4) (pm_toRef (pm_int)))) (pmp_none))))))))
      (pssm_nil))
      (pssm_cons (psm_if (pmt_eq hr.units (pm_ref 5) (pm_toRef (pm_int)))
      (pssm_one (psm_ret (pm_join (pm_str) (pm_toRef (pm_add (pm_toRef (pm_add (pm_toRef (pm_slice (pm_ref 2) (pmp_none) (pmp_some (pm_var 4)))) (pm_toRef (pm_give (pmo_lst (pma_cons (pm_ix hr.units (pm_ref 2) (pm_ref 4)) (pma_nil))))))) (pm_toRef (pm_slice (pm_ref 2) (pmp_some (pm_var 4)) (pmp_none))))))))
      (pssm_nil))
      (pssm_cons (psm_if (pmt_eq hr.units (pm_ref 5) (pm_toRef (pm_int)))
      (pssm_one (psm_ret (pm_join (pm_str) (pm_toRef (pm_slice (pm_ref 2) (pmp_none) (pmp_some (pm_var 4)))))))
      (pssm_nil))
      (pssm_one (psm_ret (pm_join (pm_str) (pm_toRef (pm_add (pm_toRef (pm_add (pm_toRef (pm_slice (pm_ref 2) (pmp_none) (pmp_some (pm_var 4)))) (pm_toRef (pm_give (pmo_lst (pma_cons (pm_ix hr.units (pm_ref 3) (pm_toRef (pm_call G__law_pick hr tk (pma_cons (pm_var 0) (pma_cons (pm_int) (pma_nil))) (cons_len (cons_len nil_len))))) (pma_nil))))))) (pm_toRef (pm_slice (pm_ref 2) (pmp_some (pm_add (pm_ref 4) (pm_toRef (pm_toInt FS.b_int (pm_toRef (pm_lt hr.units (pm_ref 5) (pm_toRef (pm_int)))))))) (pmp_none)))))))))))))
theorem f__law_spoilt {P : Program} {w : World} {K : PySem.W.Frag} {mg : Str → Option Value} {base : Heap} {fa : Addr} {fd : FuncData} (FS : Facts K mg) (G__law_pick : Fn P w K mg base "_law_pick" 1 2 F__law_pick) (FD : FunD K "_law_spoilt" "_law_spoilt" (defArgs (top 37)) (defBody (top 37)) (defScope (top 37)) [] [] fa fd) (hm : mg "_law_spoilt" = some (.ref fa)) (hb : Binds K fd ["_law_row", "_law_line"] []) : Fn P w K mg base "_law_spoilt" 2 2 F__law_spoilt := fn_ok FD sc__law_spoilt hm hb rfl rfl fun cdv A outer s H E hr tk => w__law_spoilt FS G__law_pick hr tk
/-! number_in -/
theorem sc_number_in : FnScope ["words", "at", "line", "low", "high", "number"] ["words", "at", "line", "low", "high"] (defScope (top 22)) := ⟨rfl, rfl, rfl, by decide +kernel, rfl, by decide +kernel, by decide +kernel⟩
theorem w_number_in {P : Program} {w : World} {K : PySem.W.Frag} {mg : Str → Option Value} {base : Heap} (FS : Facts K mg) (G_BadLine : XInit P w K mg base "BadLine" ["line", "word"] 1) {fa : Addr} {cdv : Value} {A : Around} {outer : List PySem.Env} {s : Shared} {H : Hp} {E : XK} (hr : Room 2 (A.deeper (envOfC "number_in" (defScope (top 22)) s.heap.objs.size fa cdv))) (tk : Takes (cxOf (L2.CX P w) P w K mg base ["words", "at", "line", "low", "high", "number"] "number_in" (defScope (top 22)) fa cdv A outer s H E) (fun cls d _ H' => E cls d H')) : PSsM (cxOf (L2.CX P w) P w K mg base ["words", "at", "line", "low", "high", "number"] "number_in" (defScope (top 22)) fa cdv A outer s H E) (fun cls d _ H' => E cls d H') (defBody (top 22)) m_number_in := by
  have sc := sc_number_in
  exact pssm_cons (psm_if (pmt_w (pmw_or (pmt_ge (pm_ref 1) (pm_toRef (pm_len FS.b_len (pm_ref 0)))) (pmw_or1 (pmt_notin (u65 hr) (pm_toRef (pm_ix hr.units (pm_ref 0) (pm_ref 1))) (pm_toRef (pm_give (pmo_lc (pim_range2 FS.b_range (pma_cons (pm_var 3) (pma_cons (pm_add (pm_ref 4) (pm_toRef (pm_int))) (pma_nil)))) (fun _ _ _ _ _ => pgm_name 5 sc.nd) (fun _ _ _ _ _ => pmts_nil) (fun _ _ _ _ _ => pm_toStr FS.b_str (pm_ref 5)) rfl sc.nd [("number", 5)])))))))
      (pssm_one (psm_raiseX G_BadLine (by decide) hr tk (pma_cons (pm_var 2) (pma_cons (pm_add (pm_ref 1) (pm_toRef (pm_int))) (pma_nil))) (cons_len (cons_len nil_len))))
      (pssm_nil))
      (pssm_one (psm_ret (pm_intT FS.b_int (pm_toRef (pm_ix hr.units (pm_ref 0) (pm_ref 1))))))
theorem f_number_in {P : Program} {w : World} {K : PySem.W.Frag} {mg : Str → Option Value} {base : Heap} {fa : Addr} {fd : FuncData} (FS : Facts K mg) (G_BadLine : XInit P w K mg base "BadLine" ["line", "word"] 1) (FD : FunD K "number_in" "number_in" (defArgs (top 22)) (defBody (top 22)) (defScope (top 22)) [] [] fa fd) (hm : mg "number_in" = some (.ref fa)) (hb : Binds K fd ["words", "at", "line", "low", "high"] []) : Fn P w K mg base "number_in" 3 5 F_number_in := fn_ok FD sc_number_in hm hb rfl rfl fun cdv A outer s H E hr tk => w_number_in FS G_BadLine hr tk
/-! head_in -/
theorem sc_head_in : FnScope ["words", "least", "most", "signs", "window"] ["words"] (defScope (top 23)) := ⟨rfl, rfl, rfl, by decide +kernel, rfl, by decide +kernel, by decide +kernel⟩
theorem w_head_in {P : Program} {w : World} {K : PySem.W.Frag} {mg : Str → Option Value} {base : Heap} (FS : Facts K mg) (G_BadLine : XInit P w K mg base "BadLine" ["line", "word"] 1) (G_number_in : Fn P w K mg base "number_in" 3 5 F_number_in) {fa : Addr} {cdv : Value} {A : Around} {outer : List PySem.Env} {s : Shared} {H : Hp} {E : XK} (hr : Room 3 (A.deeper (envOfC "head_in" (defScope (top 23)) s.heap.objs.size fa cdv))) (tk : Takes (cxOf (L2.CX P w) P w K mg base ["words", "least", "most", "signs", "window"] "head_in" (defScope (top 23)) fa cdv A outer s H E) (fun cls d _ H' => E cls d H')) : PSsM (cxOf (L2.CX P w) P w K mg base ["words", "least", "most", "signs", "window"] "head_in" (defScope (top 23)) fa cdv A outer s H E) (fun cls d _ H' => E cls d H') (defBody (top 23)) m_head_in := by
  have sc := sc_head_in
  exact pssm_cons (psm_if (pmt_ne hr.units (pm_toRef (pm_slice (pm_ref 0) (pmp_none) (pmp_some (pm_int)))) (pm_toRef (pm_give (pmo_lst (pma_cons (pm_gstr FS.c_RULE) (pma_nil))))))
      (pssm_one (psm_raiseX G_BadLine (by decide) hr tk (pma_cons (pm_int) (pma_cons (pm_int) (pma_nil))) (cons_len (cons_len nil_len))))
      (pssm_nil))
      (pssm_cons (psm_par2 3 4 (pml_val (pm_call G_number_in hr tk (pma_cons (pm_var 0) (pma_cons (pm_int) (pma_cons (pm_int) (pma_cons (pm_int) (pma_cons (pm_gint FS.c_MOST_SIGNS) (pma_nil)))))) (cons_len (cons_len (cons_len (cons_len (cons_len nil_len)))))) (pml_val (pm_call G_number_in hr tk (pma_cons (pm_var 0) (pma_cons (pm_int) (pma_cons (pm_int) (pma_cons (pm_int) (pma_cons (pm_gint FS.c_MOST_WINDOW) (pma_nil)))))) (cons_len (cons_len (cons_len (cons_len (cons_len nil_len)))))) (pml_nil))) sc.nd)
      (pssm_cons (psm_set 1 (pm_call G_number_in hr tk (pma_cons (pm_var 0) (pma_cons (pm_int) (pma_cons (pm_int) (pma_cons (pm_int) (pma_cons (pm_gint FS.c_MOST_LEAST) (pma_nil)))))) (cons_len (cons_len (cons_len (cons_len (cons_len nil_len)))))) sc.nd)
      (pssm_cons (psm_set 2 (pm_ifExp (pmt_eq hr.units (pm_toRef (pm_slice (pm_ref 0) (pmp_some (pm_int)) (pmp_some (pm_int)))) (pm_toRef (pm_give (pmo_lst (pma_cons (pm_gstr FS.c_NONE) (pma_nil)))))) (pm_non) (pm_call G_number_in hr tk (pma_cons (pm_var 0) (pma_cons (pm_int) (pma_cons (pm_int) (pma_cons (pm_var 1) (pma_cons (pm_gint FS.c_MOST_LENGTH) (pma_nil)))))) (cons_len (cons_len (cons_len (cons_len (cons_len nil_len))))))) sc.nd)
      (pssm_cons (psm_if (pmt_gt hr.units (pm_toRef (pm_len FS.b_len (pm_ref 0))) (pm_toRef (pm_int)))
      (pssm_one (psm_raiseX G_BadLine (by decide) hr tk (pma_cons (pm_int) (pma_cons (pm_int) (pma_nil))) (cons_len (cons_len nil_len))))
      (pssm_nil))
      (pssm_one (psm_ret (pm_tup (pma_cons (pm_var 3) (pma_cons (pm_var 4) (pma_cons (pm_var 1) (pma_cons (pm_var 2) (pma_nil))))))))))))
theorem f_head_in {P : Program} {w : World} {K : PySem.W.Frag} {mg : Str → Option Value} {base : Heap} {fa : Addr} {fd : FuncData} (FS : Facts K mg) (G_BadLine : XInit P w K mg base "BadLine" ["line", "word"] 1) (G_number_in : Fn P w K mg base "number_in" 3 5 F_number_in) (FD : FunD K "head_in" "head_in" (defArgs (top 23)) (defBody (top 23)) (defScope (top 23)) [] [] fa fd) (hm : mg "head_in" = some (.ref fa)) (hb : Binds K fd ["words"] []) : Fn P w K mg base "head_in" 4 1 F_head_in := fn_ok FD sc_head_in hm hb rfl rfl fun cdv A outer s H E hr tk => w_head_in FS G_BadLine G_number_in hr tk
/-! word_in -/
theorem sc_word_in : FnScope ["words", "line", "signs", "window", "found", "at"] ["words", "line", "signs", "window"] (defScope (top 24)) := ⟨rfl, rfl, rfl, by decide +kernel, rfl, by decide +kernel, by decide +kernel⟩
theorem w_word_in {P : Program} {w : World} {K : PySem.W.Frag} {mg : Str → Option Value} {base : Heap} (FS : Facts K mg) (G_BadLine : XInit P w K mg base "BadLine" ["line", "word"] 1) (G_number_in : Fn P w K mg base "number_in" 3 5 F_number_in) {fa : Addr} {cdv : Value} {A : Around} {outer : List PySem.Env} {s : Shared} {H : Hp} {E : XK} (hr : Room 3 (A.deeper (envOfC "word_in" (defScope (top 24)) s.heap.objs.size fa cdv))) (tk : Takes (cxOf (L2.CX P w) P w K mg base ["words", "line", "signs", "window", "found", "at"] "word_in" (defScope (top 24)) fa cdv A outer s H E) (fun cls d _ H' => E cls d H')) : PSsM (cxOf (L2.CX P w) P w K mg base ["words", "line", "signs", "window", "found", "at"] "word_in" (defScope (top 24)) fa cdv A outer s H E) (fun cls d _ H' => E cls d H') (defBody (top 24)) m_word_in := by
  have sc := sc_word_in
  exact pssm_cons (psm_if (pmt_ne hr.units (pm_toRef (pm_slice (pm_ref 0) (pmp_none) (pmp_some (pm_int)))) (pm_toRef (pm_give (pmo_lst (pma_cons (pm_gstr FS.c_WORD) (pma_nil))))))
      (pssm_one (psm_raiseX G_BadLine (by decide) hr tk (pma_cons (pm_var 1) (pma_cons (pm_int) (pma_nil))) (cons_len (cons_len nil_len))))
      (pssm_nil))
      (pssm_cons (psm_set 4 (pm_tupleOf FS.b_tuple (by decide +kernel) (pm_toRef (pm_give (pmo_lcX rfl rfl tk (pim_range2 FS.b_range (pma_cons (pm_int) (pma_cons (pm_add (pm_ref 3) (pm_toRef (pm_int))) (pma_nil)))) (fun _ _ _ _ _ => pgm_name 5 sc.nd) (fun _ _ _ _ _ => pmts_nil) (fun _ _ _ _ _ _ _ tk3 => pm_call G_number_in hr tk3 (pma_cons (pm_var 0) (pma_cons (pm_var 5) (pma_cons (pm_var 1) (pma_cons (pm_int) (pma_cons (pm_sub (pm_ref 2) (pm_toRef (pm_int))) (pma_nil)))))) (cons_len (cons_len (cons_len (cons_len (cons_len nil_len)))))) rfl sc.nd [("at", 5)])))) sc.nd)
      (pssm_cons (psm_if (pmt_gt hr.units (pm_toRef (pm_len FS.b_len (pm_ref 0))) (pm_toRef (pm_add (pm_ref 3) (pm_toRef (pm_int)))))
      (pssm_one (psm_raiseX G_BadLine (by decide) hr tk (pma_cons (pm_var 1) (pma_cons (pm_add (pm_ref 3) (pm_toRef (pm_int))) (pma_nil))) (cons_len (cons_len nil_len))))
      (pssm_nil))
      (pssm_one (psm_ret (pm_var 4)))))
theorem f_word_in {P : Program} {w : World} {K : PySem.W.Frag} {mg : Str → Option Value} {base : Heap} {fa : Addr} {fd : FuncData} (FS : Facts K mg) (G_BadLine : XInit P w K mg base "BadLine" ["line", "word"] 1) (G_number_in : Fn P w K mg base "number_in" 3 5 F_number_in) (FD : FunD K "word_in" "word_in" (defArgs (top 24)) (defBody (top 24)) (defScope (top 24)) [] [] fa fd) (hm : mg "word_in" = some (.ref fa)) (hb : Binds K fd ["words", "line", "signs", "window"] []) : Fn P w K mg base "word_in" 4 4 F_word_in := fn_ok FD sc_word_in hm hb rfl rfl fun cdv A outer s H E hr tk => w_word_in FS G_BadLine G_number_in hr tk
/-! read -/
theorem sc_read : FnScope ["text", "lines", "found", "signs", "window", "least", "most", "at", "words", "word", "line"] ["text"] (defScope (top 25)) := ⟨rfl, rfl, rfl, by decide +kernel, rfl, by decide +kernel, by decide +kernel⟩
theorem w_read {P : Program} {w : World} {K : PySem.W.Frag} {mg : Str → Option Value} {base : Heap} (FS : Facts K mg) (G_BadLine : XInit P w K mg base "BadLine" ["line", "word"] 1) (G_Rule : MkF P w K mg base 3 F_Rule) (G_head_in : Fn P w K mg base "head_in" 4 1 F_head_in) (G_word_in : Fn P w K mg base "word_in" 4 4 F_word_in) {fa : Addr} {cdv : Value} {A : Around} {outer : List PySem.Env} {s : Shared} {H : Hp} {E : XK} (hr : Room 4 (A.deeper (envOfC "read" (defScope (top 25)) s.heap.objs.size fa cdv))) (tk : Takes (cxOf (L2.CX P w) P w K mg base ["text", "lines", "found", "signs", "window", "least", "most", "at", "words", "word", "line"] "read" (defScope (top 25)) fa cdv A outer s H E) (fun cls d _ H' => E cls d H')) : PSsM (cxOf (L2.CX P w) P w K mg base ["text", "lines", "found", "signs", "window", "least", "most", "at", "words", "word", "line"] "read" (defScope (top 25)) fa cdv A outer s H E) (fun cls d _ H' => E cls d H') (defBody (top 25)) m_read := by
  have sc := sc_read
  exact pssm_cons (psm_setLc 1 (pim_items (pm_give (pmo_split (pm_var 0) (pm_toRef (pm_str))))) (fun _ _ _ _ _ => pgm_name 10 sc.nd) (fun _ _ _ _ _ => pmts_nil) (fun _ _ _ _ _ => pm_give (pmo_lc (pim_items (pm_give (pmo_split (pm_var 10) (pm_toRef (pm_str))))) (fun _ _ _ _ _ => pgm_name 9 sc.nd) (fun _ _ _ _ _ => pmts_one (pmt_ne hr.units (pm_ref 9) (pm_toRef (pm_str)))) (fun _ _ _ _ _ => pm_var 9) rfl sc.nd [("word", 9)])) rfl sc.nd [("line", 10)])
      (pssm_cons (psm_asg (pm_call G_head_in hr tk (pma_cons (pm_ix hr.units (pm_ref 1) (pm_toRef (pm_int))) (pma_nil)) (cons_len nil_len)) (pgm_tup (pgsm_cons (pgm_name 3 sc.nd) (pgsm_cons (pgm_name 4 sc.nd) (pgsm_cons (pgm_name 5 sc.nd) (pgsm_cons (pgm_name 6 sc.nd) (pgsm_nil)))))) (gTup_quiet (gsCons_quiet (gN_quiet 3) (gsCons_quiet (gN_quiet 4) (gsCons_quiet (gN_quiet 5) (gsCons_quiet (gN_quiet 6) (gsNil_quiet)))))))
      (pssm_cons (psm_setO 2 (pmo_lst (pma_nil)) sc.nd)
      (pssm_cons (psm_for PassesOwn.leaving rfl (pim_enum FS.b_enumerate (pma_cons (pm_slice (pm_ref 1) (pmp_some (pm_int)) (pmp_none)) (pma_nil))) (pgm_tup (pgsm_cons (pgm_name 7 sc.nd) (pgsm_cons (pgm_name 8 sc.nd) (pgsm_nil)))) (gTup_quiet (gsCons_quiet (gN_quiet 7) (gsCons_quiet (gN_quiet 8) (gsNil_quiet))))
      (pssm_cons (psm_set 9 (pm_call G_word_in hr tk (pma_cons (pm_var 8) (pma_cons (pm_add (pm_ref 7) (pm_toRef (pm_int))) (pma_cons (pm_var 3) (pma_cons (pm_var 4) (pma_nil))))) (cons_len (cons_len (cons_len (cons_len nil_len))))) sc.nd)
      (pssm_cons (psm_if (pmt_w (pmw_and (pmt_ne hr.units (pm_ref 2) (pm_toRef (pm_give (pmo_lst (pma_nil))))) (pmw_and1 (pmt_le hr.units (pm_ref 9) (pm_toRef (pm_ix hr.units (pm_ref 2) (pm_toRef (pm_neg (pm_int)))))))))
      (pssm_one (psm_raiseX G_BadLine (by decide) hr tk (pma_cons (pm_add (pm_ref 7) (pm_toRef (pm_int))) (pma_cons (pm_int) (pma_nil))) (cons_len (cons_len nil_len))))
      (pssm_nil))
      (pssm_one (psm_append 2 (pm_var 9))))))
      (pssm_one (psm_ret (pm_make G_Rule hr tk (pma_cons (pm_var 3) (pma_cons (pm_var 4) (pma_cons (pm_tupleOf FS.b_tuple (by decide +kernel) (pm_ref 2)) (pma_cons (pm_var 5) (pma_cons (pm_var 6) (pma_nil)))))) (cons_len (cons_len (cons_len (cons_len (cons_len nil_len))))) (fun _ _ _ _ h => initM_ret h)))))))
theorem f_read {P : Program} {w : World} {K : PySem.W.Frag} {mg : Str → Option Value} {base : Heap} {fa : Addr} {fd : FuncData} (FS : Facts K mg) (G_BadLine : XInit P w K mg base "BadLine" ["line", "word"] 1) (G_Rule : MkF P w K mg base 3 F_Rule) (G_head_in : Fn P w K mg base "head_in" 4 1 F_head_in) (G_word_in : Fn P w K mg base "word_in" 4 4 F_word_in) (FD : FunD K "read" "read" (defArgs (top 25)) (defBody (top 25)) (defScope (top 25)) [] [] fa fd) (hm : mg "read" = some (.ref fa)) (hb : Binds K fd ["text"] []) : Fn P w K mg base "read" 5 1 F_read := fn_ok FD sc_read hm hb rfl rfl fun cdv A outer s H E hr tk => w_read FS G_BadLine G_Rule G_head_in G_word_in hr tk
/-! _law_told_there -/
theorem sc__law_told_there : FnScope ["_law_text", "_law_told_there_here", "e"] ["_law_text"] (defScope (top 36)) := ⟨rfl, rfl, rfl, by decide +kernel, rfl, by decide +kernel, by decide +kernel⟩
theorem w__law_told_there {P : Program} {w : World} {K : PySem.W.Frag} {mg : Str → Option Value} {base : Heap} (FS : Facts K mg) (G_read : Fn P w K mg base "read" 5 1 F_read) {fa : Addr} {cdv : Value} {A : Around} {outer : List PySem.Env} {s : Shared} {H : Hp} {E : XK} (hr : Room 5 (A.deeper (envOfC "_law_told_there" (defScope (top 36)) s.heap.objs.size fa cdv))) (tk : Takes (cxOf (L2.CX P w) P w K mg base ["_law_text", "_law_told_there_here", "e"] "_law_told_there" (defScope (top 36)) fa cdv A outer s H E) (fun cls d _ H' => E cls d H')) : PSsM (cxOf (L2.CX P w) P w K mg base ["_law_text", "_law_told_there_here", "e"] "_law_told_there" (defScope (top 36)) fa cdv A outer s H E) (fun cls d _ H' => E cls d H') (defBody (top 36)) m__law_told_there := by
  have sc := sc__law_told_there
  exact pssm_cons (psm_set 1 (pm_non) sc.nd)
      (pssm_cons (psm_tryX FS.et tk rfl rfl (fun _ _ _ tk2 pw2 => pssm_one (psm_set 1 (pm_call G_read hr tk2 (pma_cons (pm_var 0) (pma_nil)) (cons_len nil_len)) sc.nd)) (.cons (i := 2) (j := 1) (by decide) (hdv_l2 (FS.et.i _ (by decide)) (FS.x_BadLine.nf "line" (by decide)) (FS.x_BadLine.nf "word" (by decide)) rfl (by first | exact Or.inl rfl | exact Or.inr (Or.inl rfl) | exact Or.inr (Or.inr rfl)) (by decide) (by decide) rfl rfl rfl rfl rfl) (fun _ _ _ => pm_dead) FS.b_isinstance (.nil)) sc.nd)
      (pssm_one (psm_ret (pm_var 1))))
theorem f__law_told_there {P : Program} {w : World} {K : PySem.W.Frag} {mg : Str → Option Value} {base : Heap} {fa : Addr} {fd : FuncData} (FS : Facts K mg) (G_read : Fn P w K mg base "read" 5 1 F_read) (FD : FunD K "_law_told_there" "_law_told_there" (defArgs (top 36)) (defBody (top 36)) (defScope (top 36)) [] [] fa fd) (hm : mg "_law_told_there" = some (.ref fa)) (hb : Binds K fd ["_law_text"] []) : Fn P w K mg base "_law_told_there" 6 1 F__law_told_there := fn_ok FD sc__law_told_there hm hb rfl rfl fun cdv A outer s H E hr tk => w__law_told_there FS G_read hr tk
/-! parts_of -/
theorem sc_parts_of : FnScope ["rule"] ["rule"] (defScope (top 17)) := ⟨rfl, rfl, rfl, by decide +kernel, rfl, by decide +kernel, by decide +kernel⟩
theorem w_parts_of {P : Program} {w : World} {K : PySem.W.Frag} {mg : Str → Option Value} {base : Heap} (FS : Facts K mg) {fa : Addr} {cdv : Value} {A : Around} {outer : List PySem.Env} {s : Shared} {H : Hp} {E : XK} (hr : Room 0 (A.deeper (envOfC "parts_of" (defScope (top 17)) s.heap.objs.size fa cdv))) (tk : Takes (cxOf (L2.CX P w) P w K mg base ["rule"] "parts_of" (defScope (top 17)) fa cdv A outer s H E) (fun cls d _ H' => E cls d H')) : PSsM (cxOf (L2.CX P w) P w K mg base ["rule"] "parts_of" (defScope (top 17)) fa cdv A outer s H E) (fun cls d _ H' => E cls d H') (defBody (top 17)) m_parts_of := by
  have sc := sc_parts_of
  exact pssm_one (psm_ret (pm_tup (pma_cons (pm_fld 0 FS.cl FS.na_many rfl (pm_ref 0)) (pma_cons (pm_fld 1 FS.cl FS.na_wide rfl (pm_ref 0)) (pma_cons (pm_fld 2 FS.cl FS.na_rows rfl (pm_ref 0)) (pma_cons (pm_fld 3 FS.cl FS.na_low rfl (pm_ref 0)) (pma_cons (pm_fld 4 FS.cl FS.na_high rfl (pm_ref 0)) (pma_nil))))))))
theorem f_parts_of {P : Program} {w : World} {K : PySem.W.Frag} {mg : Str → Option Value} {base : Heap} {fa : Addr} {fd : FuncData} (FS : Facts K mg) (FD : FunD K "parts_of" "parts_of" (defArgs (top 17)) (defBody (top 17)) (defScope (top 17)) [] [] fa fd) (hm : mg "parts_of" = some (.ref fa)) (hb : Binds K fd ["rule"] []) : Fn P w K mg base "parts_of" 1 1 F_parts_of := fn_ok FD sc_parts_of hm hb rfl rfl fun cdv A outer s H E hr tk => w_parts_of FS hr tk
/-! Rule.__eq__ -/
theorem sc_eq : FnScope ["self", "other"] ["self", "other"] (defScope (inClass (top 16) 6)) := ⟨rfl, rfl, rfl, by decide +kernel, rfl, by decide +kernel, by decide +kernel⟩
theorem w_eq {P : Program} {w : World} {K : PySem.W.Frag} {mg : Str → Option Value} {base : Heap} (FS : Facts K mg) (G_parts_of : Fn P w K mg base "parts_of" 1 1 F_parts_of) {fa : Addr} {cdv : Value} {A : Around} {outer : List PySem.Env} {s : Shared} {H : Hp} {E : XK} (hr : Room 1 (A.deeper (envOfC "Rule.__eq__" (defScope (inClass (top 16) 6)) s.heap.objs.size fa cdv))) (tk : Takes (cxOf (L2.CX P w) P w K mg base ["self", "other"] "Rule.__eq__" (defScope (inClass (top 16) 6)) fa cdv A outer s H E) (fun cls d _ H' => E cls d H')) : PSsM (cxOf (L2.CX P w) P w K mg base ["self", "other"] "Rule.__eq__" (defScope (inClass (top 16) 6)) fa cdv A outer s H E) (fun cls d _ H' => E cls d H') (defBody (inClass (top 16) 6)) m_eq := by
  have sc := sc_eq
  exact pssm_one (psm_ret (pm_and (pm_isRule FS.b_isinstance (by decide +kernel) FS.g_Rule FS.ri FS.kRR FS.kTR (pm_ref 1)) (pm_one (pm_eq hr.units (pm_toRef (pm_call G_parts_of hr tk (pma_cons (pm_var 0) (pma_nil)) (cons_len nil_len))) (pm_toRef (pm_call G_parts_of hr tk (pma_cons (pm_var 1) (pma_nil)) (cons_len nil_len)))))))
theorem f_eq {P : Program} {w : World} {K : PySem.W.Frag} {mg : Str → Option Value} {base : Heap} {fd : FuncData} (FS : Facts K mg) (G_parts_of : Fn P w K mg base "parts_of" 1 1 F_parts_of) (FD : FunD K "__eq__" "Rule.__eq__" (defArgs (inClass (top 16) 6)) (defBody (inClass (top 16) 6)) (defScope (inClass (top 16) 6)) [] [] (He.ma K (He.ga K "Rule") "__eq__") fd) (hb : Binds K fd ["self", "other"] []) : EqFn P w K mg base 2 F_eq := ⟨FS.eqc, fd, _, fn_raw FD sc_eq rfl rfl fun cdv A outer s H E hr tk => w_eq FS G_parts_of hr tk, hb⟩
/-! law -/
theorem sc_law : FnScope ["_law_script", "_law_row", "_law_turn", "_law_lines_here", "_law_k", "_law_at", "_law_turn_of"] ["_law_script"] (defScope (top 38)) := ⟨rfl, rfl, rfl, by decide +kernel, rfl, by decide +kernel, by decide +kernel⟩
theorem w_law {P : Program} {w : World} {K : PySem.W.Frag} {mg : Str → Option Value} {base : Heap} (FS : Facts K mg) (G__law_due : Fn P w K mg base "_law_due" 5 1 F__law_due) (G__law_lines : Fn P w K mg base "_law_lines" 1 1 F__law_lines) (G__law_pick : Fn P w K mg base "_law_pick" 1 2 F__law_pick) (G__law_rule : Fn P w K mg base "_law_rule" 2 4 F__law_rule) (G__law_spoilt : Fn P w K mg base "_law_spoilt" 2 2 F__law_spoilt) (G__law_told_there : Fn P w K mg base "_law_told_there" 6 1 F__law_told_there) (G_eq : EqFn P w K mg base 2 F_eq) {fa : Addr} {cdv : Value} {A : Around} {outer : List PySem.Env} {s : Shared} {H : Hp} {E : XK} (hr : Room 6 (A.deeper (envOfC "law" (defScope (top 38)) s.heap.objs.size fa cdv))) (tk : Takes (cxOf (L2.CX P w) P w K mg base ["_law_script", "_law_row", "_law_turn", "_law_lines_here", "_law_k", "_law_at", "_law_turn_of"] "law" (defScope (top 38)) fa cdv A outer s H E) (fun cls d _ H' => E cls d H')) : PSsM (cxOf (L2.CX P w) P w K mg base ["_law_script", "_law_row", "_law_turn", "_law_lines_here", "_law_k", "_law_at", "_law_turn_of"] "law" (defScope (top 38)) fa cdv A outer s H E) (fun cls d _ H' => E cls d H') ((defBody (top 38)).tail) m_law := by
  have sc := sc_law
  exact pssm_cons (psm_for PassesOwn.leaving rfl (pim_range1 FS.b_range (pma_cons (pm_int) (pma_nil))) (pgm_name 2 sc.nd) (gN_quiet 2)
      (pssm_cons (psm_setO 3 (pmo_callO G__law_lines hr tk (pma_cons (pm_call G__law_rule hr tk (pma_cons (pm_var 1) (pma_cons (pm_int) (pma_cons (pm_int) (pma_cons (pm_int) (pma_nil))))) (cons_len (cons_len (cons_len (cons_len nil_len))))) (pma_nil)) (cons_len nil_len)) sc.nd)
      (pssm_cons (psm_for PassesOwn.leaving rfl (pim_range1 FS.b_range (pma_cons (pm_call G__law_pick hr tk (pma_cons (pm_var 1) (pma_cons (pm_int) (pma_nil))) (cons_len (cons_len nil_len))) (pma_nil))) (pgm_name 4 sc.nd) (gN_quiet 4)
      (pssm_cons (psm_par2 5 6 (pml_val (pm_call G__law_pick hr tk (pma_cons (pm_var 1) (pma_cons (pm_len FS.b_len (pm_ref 3)) (pma_nil))) (cons_len (cons_len nil_len))) (pml_val (pm_call G__law_pick hr tk (pma_cons (pm_var 1) (pma_cons (pm_int) (pma_nil))) (cons_len (cons_len nil_len))) (pml_nil))) sc.nd)
      (pssm_one (psm_if (pmt_w (pmw_and (pmt_eq hr.units (pm_ref 6) (pm_toRef (pm_int))) (pmw_and1 (pmt_gt hr.units (pm_toRef (pm_len FS.b_len (pm_ref 3))) (pm_toRef (pm_int))))))
      (pssm_one (psm_setO 3 (pmo_cat (pm_toRef (pm_slice (pm_ref 3) (pmp_none) (pmp_some (pm_var 5)))) (pm_toRef (pm_slice (pm_ref 3) (pmp_some (pm_add (pm_ref 5) (pm_toRef (pm_int)))) (pmp_none)))) sc.nd))
      (pssm_one (psm_if (pmt_eq hr.units (pm_ref 6) (pm_toRef (pm_int)))
      (pssm_one (psm_setO 3 (pmo_cat (pm_toRef (pm_add (pm_toRef (pm_slice (pm_ref 3) (pmp_none) (pmp_some (pm_var 5)))) (pm_toRef (pm_give (pmo_lst (pma_cons (pm_ix hr.units (pm_ref 3) (pm_ref 5)) (pma_nil))))))) (pm_toRef (pm_slice (pm_ref 3) (pmp_some (pm_var 5)) (pmp_none)))) sc.nd))
      (pssm_one (psm_if (pmt_eq hr.units (pm_ref 6) (pm_toRef (pm_int)))
      (pssm_one (psm_setO 3 (pmo_cat (pm_toRef (pm_slice (pm_ref 3) (pmp_none) (pmp_some (pm_int)))) (pm_toRef (pm_revL (pm_toRef (pm_slice (pm_ref 3) (pmp_some (pm_int)) (pmp_none)))))) sc.nd))
      (pssm_one (psm_setIx 3 (pm_var 5) (pm_call G__law_spoilt hr tk (pma_cons (pm_var 1) (pma_cons (pm_ix hr.units (pm_ref 3) (pm_ref 5)) (pma_nil))) (cons_len (cons_len nil_len)))))))))))))
      (pssm_one (psm_if (pmt_neO G_eq hr (pm_toRef (pm_call G__law_told_there hr tk (pma_cons (pm_join (pm_str) (pm_ref 3)) (pma_nil)) (cons_len nil_len))) (pm_toRef (pm_call G__law_due hr tk (pma_cons (pm_join (pm_str) (pm_ref 3)) (pma_nil)) (cons_len nil_len))))
      (pssm_one (psm_ret (pm_bl)))
      (pssm_nil))))))
      (pssm_one (psm_ret (pm_eqO G_eq hr (pm_toRef (pm_call G__law_told_there hr tk (pma_cons (pm_str) (pma_nil)) (cons_len nil_len))) (pm_toRef (pm_give (pmo_lst (pma_cons (pm_str) (pma_cons (pm_int) (pma_cons (pm_int) (pma_nil))))))))))
def d_is_from : He.DefD := ⟨("is_from", none), "is_from", "is_from", defArgs (top 12), defBody (top 12), defScope (top 12), [], []⟩
def d_is_word : He.DefD := ⟨("is_word", none), "is_word", "is_word", defArgs (top 13), defBody (top 13), defScope (top 13), [], []⟩
def d_check_shape : He.DefD := ⟨("check_shape", none), "check_shape", "check_shape", defArgs (top 14), defBody (top 14), defScope (top 14), [], []⟩
def d_check_lengths : He.DefD := ⟨("check_lengths", none), "check_lengths", "check_lengths", defArgs (top 15), defBody (top 15), defScope (top 15), [], []⟩
def d_parts_of : He.DefD := ⟨("parts_of", none), "parts_of", "parts_of", defArgs (top 17), defBody (top 17), defScope (top 17), [], []⟩
def d_number_in : He.DefD := ⟨("number_in", none), "number_in", "number_in", defArgs (top 22), defBody (top 22), defScope (top 22), [], []⟩
def d_head_in : He.DefD := ⟨("head_in", none), "head_in", "head_in", defArgs (top 23), defBody (top 23), defScope (top 23), [], []⟩
def d_word_in : He.DefD := ⟨("word_in", none), "word_in", "word_in", defArgs (top 24), defBody (top 24), defScope (top 24), [], []⟩
def d_read : He.DefD := ⟨("read", none), "read", "read", defArgs (top 25), defBody (top 25), defScope (top 25), [], []⟩
def d__law_draws : He.DefD := ⟨("_law_draws", none), "_law_draws", "_law_draws", defArgs (top 27), defBody (top 27), defScope (top 27), [], []⟩
def d__law_pick : He.DefD := ⟨("_law_pick", none), "_law_pick", "_law_pick", defArgs (top 28), defBody (top 28), defScope (top 28), [], []⟩
def d__law_words : He.DefD := ⟨("_law_words", none), "_law_words", "_law_words", defArgs (top 29), defBody (top 29), defScope (top 29), [], []⟩
def d__law_rule : He.DefD := ⟨("_law_rule", none), "_law_rule", "_law_rule", defArgs (top 30), defBody (top 30), defScope (top 30), [], []⟩
def d__law_lines : He.DefD := ⟨("_law_lines", none), "_law_lines", "_law_lines", defArgs (top 31), defBody (top 31), defScope (top 31), [], []⟩
def d__law_bad : He.DefD := ⟨("_law_bad", none), "_law_bad", "_law_bad", defArgs (top 32), defBody (top 32), defScope (top 32), [], []⟩
def d__law_first : He.DefD := ⟨("_law_first", none), "_law_first", "_law_first", defArgs (top 33), defBody (top 33), defScope (top 33), [], []⟩
def d__law_fault : He.DefD := ⟨("_law_fault", none), "_law_fault", "_law_fault", defArgs (top 34), defBody (top 34), defScope (top 34), [], []⟩
def d__law_due : He.DefD := ⟨("_law_due", none), "_law_due", "_law_due", defArgs (top 35), defBody (top 35), defScope (top 35), [], []⟩
def d__law_told_there : He.DefD := ⟨("_law_told_there", none), "_law_told_there", "_law_told_there", defArgs (top 36), defBody (top 36), defScope (top 36), [], []⟩
def d__law_spoilt : He.DefD := ⟨("_law_spoilt", none), "_law_spoilt", "_law_spoilt", defArgs (top 37), defBody (top 37), defScope (top 37), [], []⟩
def d_law : He.DefD := ⟨("law", none), "law", "law", defArgs (top 38), defBody (top 38), defScope (top 38), [], []⟩
def d_Rule : He.DefD := ⟨("Rule", some "__init__"), "__init__", "Rule.__init__", defArgs (inClass (top 16) 0), defBody (inClass (top 16) 0), defScope (inClass (top 16) 0), [], []⟩
def d_eq : He.DefD := ⟨("Rule", some "__eq__"), "__eq__", "Rule.__eq__", defArgs (inClass (top 16) 6), defBody (inClass (top 16) 6), defScope (inClass (top 16) 6), [], []⟩
def d_BadWords : He.DefD := ⟨("BadWords", some "__init__"), "__init__", "BadWords.__init__", defArgs (inClass (top 5) 0), defBody (inClass (top 5) 0), defScope (inClass (top 5) 0), [], []⟩
def d_BadLine : He.DefD := ⟨("BadLine", some "__init__"), "__init__", "BadLine.__init__", defArgs (inClass (top 6) 0), defBody (inClass (top 6) 0), defScope (inClass (top 6) 0), [], []⟩
def fn : List He.DefD := [d_is_from, d_is_word, d_check_shape, d_check_lengths, d_parts_of, d_number_in, d_head_in, d_word_in, d_read, d__law_draws, d__law_pick, d__law_words, d__law_rule, d__law_lines, d__law_bad, d__law_first, d__law_fault, d__law_due, d__law_told_there, d__law_spoilt, d_law, d_Rule, d_eq, d_BadWords, d_BadLine]
def fa : List He.Fa := [.glo "is_from", .glo "is_word", .glo "check_shape", .glo "check_lengths", .glo "parts_of", .glo "number_in", .glo "head_in", .glo "word_in", .glo "read", .glo "_law_draws", .glo "_law_pick", .glo "_law_words", .glo "_law_rule", .glo "_law_lines", .glo "_law_bad", .glo "_law_first", .glo "_law_fault", .glo "_law_due", .glo "_law_told_there", .glo "_law_spoilt", .glo "law", .glo "CutError", .glo "BadSigns", .glo "BadWindow", .glo "BadLengths", .glo "BadWords", .glo "BadLine", .glo "Rule", .free "all", .free "bool", .free "enumerate", .free "int", .free "isinstance", .free "len", .free "list", .free "range", .free "str", .free "tuple", .int "MOST_LEAST" 6, .int "MOST_LENGTH" 8, .int "MOST_SIGNS" 3, .int "MOST_WINDOW" 3, .str "NONE" "none", .str "RULE" "rule", .str "WORD" "word", .cls "Rule", .exc "BadLengths", .exc "BadSigns", .exc "BadWindow", .noat "Rule" "high", .noat "Rule" "low", .noat "Rule" "many", .noat "Rule" "rows", .noat "Rule" "wide", .mkr "Rule"]
def tys : List String := ["bool", "int", "tuple"]
def ks : List (Str × D) := []
def xcs : List (Str × List Str) := [("BadWords", ["index"]), ("BadLine", ["line", "word"])]
def exA0 (K : PySem.W.Frag) : Bool := exB errs tys ks K && xcs.all fun p => xB K p.1 p.2
def exA (K : PySem.W.Frag) : Bool := exA0 K && eqB2 K
theorem facts_of {K : PySem.W.Frag} {h : Heap} {mg : Str → Option Value} (KX : K.In h) (G : h.Ns mainGlobals mg) (c : He.SaysD fa fn K) (hx0 : exA K = true) : Facts K mg :=
  have hx : exA0 K = true := (Bool.and_eq_true_iff.mp hx0).1
  have hxx : ∀ p ∈ xcs, xB K p.1 p.2 = true := List.all_eq_true.mp (Bool.and_eq_true_iff.mp hx).2
  have E := ex_of (Bool.and_eq_true_iff.mp hx).1
  { b_all := He.free_ok KX G (c.fact 28 rfl),
    b_bool := He.free_ok KX G (c.fact 29 rfl),
    b_enumerate := He.free_ok KX G (c.fact 30 rfl),
    b_int := He.free_ok KX G (c.fact 31 rfl),
    b_isinstance := He.free_ok KX G (c.fact 32 rfl),
    b_len := He.free_ok KX G (c.fact 33 rfl),
    b_list := He.free_ok KX G (c.fact 34 rfl),
    b_range := He.free_ok KX G (c.fact 35 rfl),
    b_str := He.free_ok KX G (c.fact 36 rfl),
    b_tuple := He.free_ok KX G (c.fact 37 rfl),
    c_MOST_LEAST := He.int_ok KX G (c.fact 38 rfl),
    c_MOST_LENGTH := He.int_ok KX G (c.fact 39 rfl),
    c_MOST_SIGNS := He.int_ok KX G (c.fact 40 rfl),
    c_MOST_WINDOW := He.int_ok KX G (c.fact 41 rfl),
    c_NONE := He.str_ok KX G (c.fact 42 rfl),
    c_RULE := He.str_ok KX G (c.fact 43 rfl),
    c_WORD := He.str_ok KX G (c.fact 44 rfl),
    cl := He.cls_ok (c.fact 45 rfl),
    e_BadLengths := excF_of (c.fact 46 rfl) (He.glo_ok KX G (c.fact 24 rfl)),
    e_BadSigns := excF_of (c.fact 47 rfl) (He.glo_ok KX G (c.fact 22 rfl)),
    e_BadWindow := excF_of (c.fact 48 rfl) (He.glo_ok KX G (c.fact 23 rfl)),
    eqc := eqB2_ok (Bool.and_eq_true_iff.mp hx0).2,
    et := ⟨List.forall_mem_cons.mpr ⟨He.glo_ok KX G (c.fact 21 rfl), List.forall_mem_cons.mpr ⟨He.glo_ok KX G (c.fact 22 rfl), List.forall_mem_cons.mpr ⟨He.glo_ok KX G (c.fact 23 rfl), List.forall_mem_cons.mpr ⟨He.glo_ok KX G (c.fact 24 rfl), List.forall_mem_cons.mpr ⟨He.glo_ok KX G (c.fact 25 rfl), List.forall_mem_cons.mpr ⟨He.glo_ok KX G (c.fact 26 rfl), List.forall_mem_nil _⟩⟩⟩⟩⟩⟩, E.m, E.i, E.k, by decide⟩,
    g_Rule := He.glo_ok KX G (c.fact 27 rfl),
    kRR := E.kRR,
    kTR := E.kTR,
    ki_bool := E.ki _ (by decide),
    ki_int := E.ki _ (by decide),
    ki_tuple := E.ki _ (by decide),
    na_high := He.noat_ok (c.fact 49 rfl),
    na_low := He.noat_ok (c.fact 50 rfl),
    na_many := He.noat_ok (c.fact 51 rfl),
    na_rows := He.noat_ok (c.fact 52 rfl),
    na_wide := He.noat_ok (c.fact 53 rfl),
    ri := E.ri (He.cls_ok (c.fact 45 rfl)),
    x_BadLine := xB_ok (hxx ("BadLine", ["line", "word"]) (by decide)) (He.glo_ok KX G (c.fact 26 rfl)),
    x_BadWords := xB_ok (hxx ("BadWords", ["index"]) (by decide)) (He.glo_ok KX G (c.fact 25 rfl)) }
theorem sc_draws : FnScope ["_law_script"] ["_law_script"] (defScope (top 27)) := ⟨rfl, rfl, rfl, by decide +kernel, rfl, by decide +kernel, by decide +kernel⟩
theorem ok_draws {P : Program} {w : World} {K : PySem.W.Frag} {mg : Str → Option Value} {base : Heap} {f : Addr} {fd : FuncData} (hl : mg "list" = none) (F : FunD K "_law_draws" "_law_draws" (defArgs (top 27)) (defBody (top 27)) (defScope (top 27)) [] [] f fd) : FnOk P w K mg base (L2.CX P w) 1 f fd ["_law_script"] (spDraws K) := by
  refine F.ok sc_draws (fun vs H Q E h => ?_) (fun cdv A outer s H vs Q E hr h => ⟨_, pss_one (ps_ret (pe_lst (pa_cons (pe_callTy call_list_of rfl hl (by decide +kernel) (pa_cons (pe_var (i := 0) rfl (Or.inl rfl)) pa_nil) (by decide) (by decide)) (pa_cons pe_int (pa_cons pe_int (pa_cons pe_int pa_nil)))))), ?_⟩)
  · obtain ⟨a, ns, rfl, _⟩ := h
    rfl
  · obtain ⟨a, ns, rfl, hS, hl, q⟩ := h
    refine ⟨.ref a, rfl, a, _, rfl, .inl hS, fun L hL => ⟨by show 4 ≤ sizeLine; decide, fun r hr => q L r hL hr⟩⟩
theorem ok_law {P : Program} {w : World} {K : PySem.W.Frag} {mg : Str → Option Value} {base : Heap} {ok : List Int → Prop} {f fD : Addr} {fd fdD : FuncData} (FS : Facts K mg) (G__law_due : Fn P w K mg base "_law_due" 5 1 F__law_due) (G__law_lines : Fn P w K mg base "_law_lines" 1 1 F__law_lines) (G__law_pick : Fn P w K mg base "_law_pick" 1 2 F__law_pick) (G__law_rule : Fn P w K mg base "_law_rule" 2 4 F__law_rule) (G__law_spoilt : Fn P w K mg base "_law_spoilt" 2 2 F__law_spoilt) (G__law_told_there : Fn P w K mg base "_law_told_there" 6 1 F__law_told_there) (G_eq : EqFn P w K mg base 2 F_eq) (F : FunD K "law" "law" (defArgs (top 38)) (defBody (top 38)) (defScope (top 38)) [] [] f fd)
    (FD : FunD K "_law_draws" "_law_draws" (defArgs (top 27)) (defBody (top 27)) (defScope (top 27)) [] [] fD fdD) (hD : mg "_law_draws" = some (.ref fD)) (hm : ∀ ns, ok ns → ∃ e, m_law ⟨.no :: .val .row :: List.replicate 5 .no, row0 ns⟩ = .ok (.rt (.bl true)) e) : FnOk P w K mg base (L2.CX P w) 7 f fd ["_law_script"] (spLaw K ok) := by
  have GD : FnOk P w K mg base (L2.CX P w) 1 fD fdD ["_law_script"] (spDraws K) := ok_draws FS.b_list FD
  have bD : Binds K fdD ["_law_script"] [] := FD.bindsN fun _ _ _ _ _ _ us hl => match us, hl with | [_], _ => rfl
  refine F.ok sc_law (fun vs H Q E h => ?_) (fun cdv A outer s H vs Q E hr h => ⟨_, pss_cons (ps_set (i := 1) sc_law.nd rfl (by first | exact Or.inl rfl | exact Or.inr rfl) (pe_call GD (hr.mono (by decide)) rfl hD FD.kp bD .nil passL (pa_cons (pe_var (i := 0) rfl (Or.inl rfl)) pa_nil))) (w_law FS G__law_due G__law_lines G__law_pick G__law_rule G__law_spoilt G__law_told_there G_eq hr (takes_of rfl rfl rfl rfl)), law_read rfl hm h⟩)
  obtain ⟨a, ns, rfl, _⟩ := h
  rfl
abbrev R : PySem.W.OpenRow := PySem.W.OpenLaw.row PySem.Challenge.rw_cutsagain_k15_texts_refused
abbrev hk : PySem.W.Hook := hookM 4 fa fn exA
def ob (s : PySem.W.SharedT) : AlM := obsMG 4 fa fn exA (HandSHeadRun.getT s)
theorem ob_eq (s : PySem.W.SharedT) : ob s = hk.obs s.abs := obsMG_eq (HandSHeadRun.getT_eq s)
def loose1 : List PySem.Str := ["is_from", "is_word", "check_shape", "check_lengths", "parts_of", "number_in", "head_in", "word_in", "read", "_law_draws", "_law_pick", "_law_words", "_law_rule", "_law_lines", "_law_bad", "_law_first", "_law_fault", "_law_due", "_law_told_there", "_law_spoilt", "CutError", "BadSigns", "BadWindow", "BadLengths", "BadWords", "BadLine", "Rule", "MOST_SIGNS", "MOST_WINDOW", "MOST_LENGTH"]
def loose2 : List PySem.Str := ["MOST_LEAST", "RULE", "WORD", "NONE", "__name__"]
theorem run (w : World) : HandSHeadRun.RunEq R (PySem.W.view R.prog [38]) hk ob 4000 (loose1 ++ loose2) w := by
  intro os
  kernel_rfl
theorem facts {P : Program} {w : World} {K : PySem.W.Frag} {h : Heap} {mg : Str → Option Value} {f : Addr} {ok : List Int → Prop} (KX : K.In h) (G : h.Ns mainGlobals mg) (hfa : mg ("law" : Str) = some (.ref f)) (c : He.SaysD fa fn K) (hx : exA K = true) (hm : ∀ ns, ok ns → ∃ e, m_law ⟨.no :: .val .row :: List.replicate 5 .no, row0 ns⟩ = .ok (.rt (.bl true)) e) :
    ∃ fd : FuncData, (∀ (s : Shared) (v : Value), BindsTo s fd ⟨[v], []⟩ [("_law_script", v)]) ∧ ∀ base : Heap, K.In base → base.Ns mainGlobals mg → FnOk P w K mg base (L2.CX P w) 7 f fd ["_law_script"] (spLaw K ok) := by
  have FS := facts_of KX G c hx
  obtain ⟨fd_BadWords, FD_BadWords⟩ := c.def_ 23 (d := d_BadWords) rfl
  have G_BadWords := fun (base : Heap) => xinit1 (P := P) (w := w) (base := base) (qual := "BadWords.__init__") FS.x_BadWords FD_BadWords (⟨rfl, rfl, rfl, by decide +kernel, rfl, by decide +kernel, by decide +kernel⟩ : FnScope ["self", "index"] ["self", "index"] (defScope (inClass (top 5) 0))) (FD_BadWords.bindsN fun _ _ _ _ _ _ us hl => match us, hl with | [_, _], _ => rfl) (by decide) (by decide) (by decide) (by decide) (fun _ _ _ _ _ _ => Or.inl rfl) (fun _ _ _ _ _ _ => Or.inl rfl) (fun _ _ _ _ _ _ => rfl)
  obtain ⟨fd_is_from, FD_is_from⟩ := c.def_ 0 (d := d_is_from) rfl
  have G_is_from := fun (base : Heap) => f_is_from (P := P) (w := w) (base := base) FS  FD_is_from (He.glo_ok KX G (c.fact 0 rfl)) (FD_is_from.bindsN fun _ _ _ _ _ _ us hl => match us, hl with | [_, _, _], _ => rfl)
  obtain ⟨fd_check_lengths, FD_check_lengths⟩ := c.def_ 3 (d := d_check_lengths) rfl
  have G_check_lengths := fun (base : Heap) => f_check_lengths (P := P) (w := w) (base := base) FS (G_is_from base) FD_check_lengths (He.glo_ok KX G (c.fact 3 rfl)) (FD_check_lengths.bindsN fun _ _ _ _ _ _ us hl => match us, hl with | [_, _], _ => rfl)
  obtain ⟨fd_check_shape, FD_check_shape⟩ := c.def_ 2 (d := d_check_shape) rfl
  have G_check_shape := fun (base : Heap) => f_check_shape (P := P) (w := w) (base := base) FS (G_is_from base) FD_check_shape (He.glo_ok KX G (c.fact 2 rfl)) (FD_check_shape.bindsN fun _ _ _ _ _ _ us hl => match us, hl with | [_, _], _ => rfl)
  obtain ⟨fd_is_word, FD_is_word⟩ := c.def_ 1 (d := d_is_word) rfl
  have G_is_word := fun (base : Heap) => f_is_word (P := P) (w := w) (base := base) FS (G_is_from base) FD_is_word (He.glo_ok KX G (c.fact 1 rfl)) (FD_is_word.bindsN fun _ _ _ _ _ _ us hl => match us, hl with | [_, _, _], _ => rfl)
  obtain ⟨fd_Rule, FD_Rule⟩ := c.def_ 21 (d := d_Rule) rfl
  have G_Rule := fun (base : Heap) => f_Rule (P := P) (w := w) (base := base) FS (G_BadWords base) (G_check_lengths base) (G_check_shape base) (G_is_word base) FD_Rule (He.glo_ok KX G (c.fact 27 rfl)) (FD_Rule.bindsN fun _ _ _ _ _ _ us hl => match us, hl with | [_, _, _, _, _, _], _ => rfl) (He.mkr_ok (c.fact 54 rfl))
  obtain ⟨fd__law_bad, FD__law_bad⟩ := c.def_ 14 (d := d__law_bad) rfl
  have G__law_bad := fun (base : Heap) => f__law_bad (P := P) (w := w) (base := base) FS  FD__law_bad (He.glo_ok KX G (c.fact 14 rfl)) (FD__law_bad.bindsN fun _ _ _ _ _ _ us hl => match us, hl with | [_, _, _, _], _ => rfl)
  obtain ⟨fd__law_fault, FD__law_fault⟩ := c.def_ 16 (d := d__law_fault) rfl
  have G__law_fault := fun (base : Heap) => f__law_fault (P := P) (w := w) (base := base) FS (G__law_bad base) FD__law_fault (He.glo_ok KX G (c.fact 16 rfl)) (FD__law_fault.bindsN fun _ _ _ _ _ _ us hl => match us, hl with | [_, _, _, _], _ => rfl)
  obtain ⟨fd__law_first, FD__law_first⟩ := c.def_ 15 (d := d__law_first) rfl
  have G__law_first := fun (base : Heap) => f__law_first (P := P) (w := w) (base := base) FS (G__law_bad base) FD__law_first (He.glo_ok KX G (c.fact 15 rfl)) (FD__law_first.bindsN fun _ _ _ _ _ _ us hl => match us, hl with | [_], _ => rfl)
  obtain ⟨fd__law_due, FD__law_due⟩ := c.def_ 17 (d := d__law_due) rfl
  have G__law_due := fun (base : Heap) => f__law_due (P := P) (w := w) (base := base) FS (G_Rule base) (G__law_fault base) (G__law_first base) FD__law_due (He.glo_ok KX G (c.fact 17 rfl)) (FD__law_due.bindsN fun _ _ _ _ _ _ us hl => match us, hl with | [_], _ => rfl)
  obtain ⟨fd__law_lines, FD__law_lines⟩ := c.def_ 13 (d := d__law_lines) rfl
  have G__law_lines := fun (base : Heap) => f__law_lines (P := P) (w := w) (base := base) FS  FD__law_lines (He.glo_ok KX G (c.fact 13 rfl)) (FD__law_lines.bindsN fun _ _ _ _ _ _ us hl => match us, hl with | [_], _ => rfl)
  obtain ⟨fd__law_pick, FD__law_pick⟩ := c.def_ 10 (d := d__law_pick) rfl
  have G__law_pick := fun (base : Heap) => f__law_pick (P := P) (w := w) (base := base) FS  FD__law_pick (He.glo_ok KX G (c.fact 10 rfl)) (FD__law_pick.bindsN fun _ _ _ _ _ _ us hl => match us, hl with | [_, _], _ => rfl)
  obtain ⟨fd__law_words, FD__law_words⟩ := c.def_ 11 (d := d__law_words) rfl
  have G__law_words := fun (base : Heap) => f__law_words (P := P) (w := w) (base := base) FS  FD__law_words (He.glo_ok KX G (c.fact 11 rfl)) (FD__law_words.bindsN fun _ _ _ _ _ _ us hl => match us, hl with | [_, _], _ => rfl)
  obtain ⟨fd__law_rule, FD__law_rule⟩ := c.def_ 12 (d := d__law_rule) rfl
  have G__law_rule := fun (base : Heap) => f__law_rule (P := P) (w := w) (base := base) FS (G__law_pick base) (G__law_words base) FD__law_rule (He.glo_ok KX G (c.fact 12 rfl)) (FD__law_rule.bindsN fun _ _ _ _ _ _ us hl => match us, hl with | [_, _, _, _], _ => rfl)
  obtain ⟨fd__law_spoilt, FD__law_spoilt⟩ := c.def_ 19 (d := d__law_spoilt) rfl
  have G__law_spoilt := fun (base : Heap) => f__law_spoilt (P := P) (w := w) (base := base) FS (G__law_pick base) FD__law_spoilt (He.glo_ok KX G (c.fact 19 rfl)) (FD__law_spoilt.bindsN fun _ _ _ _ _ _ us hl => match us, hl with | [_, _], _ => rfl)
  obtain ⟨fd_BadLine, FD_BadLine⟩ := c.def_ 24 (d := d_BadLine) rfl
  have G_BadLine := fun (base : Heap) => xinit2 (P := P) (w := w) (base := base) (qual := "BadLine.__init__") FS.x_BadLine FD_BadLine (⟨rfl, rfl, rfl, by decide +kernel, rfl, by decide +kernel, by decide +kernel⟩ : FnScope ["self", "line", "word"] ["self", "line", "word"] (defScope (inClass (top 6) 0))) (FD_BadLine.bindsN fun _ _ _ _ _ _ us hl => match us, hl with | [_, _, _], _ => rfl) (by decide) (by decide) (by decide) (by decide) (by decide) (by decide) (fun _ _ _ _ _ _ => Or.inl rfl) (fun _ _ _ _ _ _ => Or.inl rfl) (fun _ _ _ _ _ _ => Or.inl rfl) (fun _ _ _ _ _ _ => rfl) (fun _ _ _ _ _ _ => rfl)
  obtain ⟨fd_number_in, FD_number_in⟩ := c.def_ 5 (d := d_number_in) rfl
  have G_number_in := fun (base : Heap) => f_number_in (P := P) (w := w) (base := base) FS (G_BadLine base) FD_number_in (He.glo_ok KX G (c.fact 5 rfl)) (FD_number_in.bindsN fun _ _ _ _ _ _ us hl => match us, hl with | [_, _, _, _, _], _ => rfl)
  obtain ⟨fd_head_in, FD_head_in⟩ := c.def_ 6 (d := d_head_in) rfl
  have G_head_in := fun (base : Heap) => f_head_in (P := P) (w := w) (base := base) FS (G_BadLine base) (G_number_in base) FD_head_in (He.glo_ok KX G (c.fact 6 rfl)) (FD_head_in.bindsN fun _ _ _ _ _ _ us hl => match us, hl with | [_], _ => rfl)
  obtain ⟨fd_word_in, FD_word_in⟩ := c.def_ 7 (d := d_word_in) rfl
  have G_word_in := fun (base : Heap) => f_word_in (P := P) (w := w) (base := base) FS (G_BadLine base) (G_number_in base) FD_word_in (He.glo_ok KX G (c.fact 7 rfl)) (FD_word_in.bindsN fun _ _ _ _ _ _ us hl => match us, hl with | [_, _, _, _], _ => rfl)
  obtain ⟨fd_read, FD_read⟩ := c.def_ 8 (d := d_read) rfl
  have G_read := fun (base : Heap) => f_read (P := P) (w := w) (base := base) FS (G_BadLine base) (G_Rule base) (G_head_in base) (G_word_in base) FD_read (He.glo_ok KX G (c.fact 8 rfl)) (FD_read.bindsN fun _ _ _ _ _ _ us hl => match us, hl with | [_], _ => rfl)
  obtain ⟨fd__law_told_there, FD__law_told_there⟩ := c.def_ 18 (d := d__law_told_there) rfl
  have G__law_told_there := fun (base : Heap) => f__law_told_there (P := P) (w := w) (base := base) FS (G_read base) FD__law_told_there (He.glo_ok KX G (c.fact 18 rfl)) (FD__law_told_there.bindsN fun _ _ _ _ _ _ us hl => match us, hl with | [_], _ => rfl)
  obtain ⟨fd_parts_of, FD_parts_of⟩ := c.def_ 4 (d := d_parts_of) rfl
  have G_parts_of := fun (base : Heap) => f_parts_of (P := P) (w := w) (base := base) FS  FD_parts_of (He.glo_ok KX G (c.fact 4 rfl)) (FD_parts_of.bindsN fun _ _ _ _ _ _ us hl => match us, hl with | [_], _ => rfl)
  obtain ⟨fd_eq, FD_eq⟩ := c.def_ 22 (d := d_eq) rfl
  have G_eq := fun (base : Heap) => f_eq (P := P) (w := w) (base := base) FS (G_parts_of base) FD_eq (FD_eq.bindsN fun _ _ _ _ _ _ us hl => match us, hl with | [_, _], _ => rfl)
  obtain ⟨fdD, FD⟩ := c.def_ 9 (d := d__law_draws) rfl
  obtain ⟨fd, F⟩ := c.def_ 20 (d := d_law) rfl
  have e := hfa.symm.trans (He.glo_ok KX G (c.fact 20 (f := .glo "law") rfl))
  cases e
  have b := FunD.bindsA (ps := ["_law_script"]) F fun _ _ _ _ _ _ us hl => match us, hl with | [_], _ => rfl
  exact ⟨fd, fun s v => b s [v] rfl, fun base _ _ => ok_law FS (G__law_due base) (G__law_lines base) (G__law_pick base) (G__law_rule base) (G__law_spoilt base) (G__law_told_there base) (G_eq base) F FD (He.glo_ok KX G (c.fact 9 rfl)) hm⟩
theorem holds (hm : ∀ ns : List Int, ns.length ≤ 63 → ∃ e, m_law ⟨.no :: .val .row :: List.replicate 5 .no, row0 ns⟩ = .ok (.rt (.bl true)) e) : PySem.Challenge.rw_cutsagain_k15_texts_refused.Holds := by
  w_on; o_law
  refine HandSHeadRun.head_any (r := PySem.W.OpenLaw.row PySem.Challenge.rw_cutsagain_k15_texts_refused) (q := PySem.W.view (PySem.W.OpenLaw.row PySem.Challenge.rw_cutsagain_k15_texts_refused).prog [38]) (H := hk) (ob := ob) (M := 4000) (loose := loose1 ++ loose2) (d := HandSHeadRun.topDef (PySem.W.OpenLaw.row PySem.Challenge.rw_cutsagain_k15_texts_refused).prog 38) (kwd := []) ob_eq
    (by kernel_rfl) (fun s => by kernel_rfl) run (by kernel_rfl) (by kernel_rfl) (by kernel_rfl) (by rfl) (by first | assumption | decide +kernel) (by decide +kernel) ⟨rfl, rfl, rfl, rfl, rfl, by decide +kernel⟩ ?hw ?hc
  case hw => w_witness2
  case hc =>
    refine L2.walk_ofE (l := PySem.Challenge.rw_cutsagain_k15_texts_refused) (n := 63) (k := 7) (x := "_law_script") (CX := CXA (PySem.Challenge.rw_cutsagain_k15_texts_refused).prog) rfl (by decide) (by kernel_rfl) ⟨rfl, by decide, by decide⟩ ?F CXA.no
    case F =>
      intro w mg fa h Y G hmg0
      obtain ⟨K, KX, c, hx⟩ := Y
      have hmg : mg ("law" : PySem.Str) = some (.ref fa) := by
        have e : (HandSHeadRun.topDef (PySem.W.OpenLaw.row PySem.Challenge.rw_cutsagain_k15_texts_refused).prog 38).name = ("law" : PySem.Str) := by kernel_rfl
        rw [← e]
        exact hmg0
      obtain ⟨fd, hb, hF⟩ := facts (P := (PySem.Challenge.rw_cutsagain_k15_texts_refused).prog) (w := w) KX G hmg c hx hm
      exact ⟨K, fd, spLaw K (fun ns => ns.length ≤ 63), KX, hb, fun H a ns hl _ hS => ⟨a, ns, rfl, hS, by omega, hl, fun _ => rfl⟩, fun base hb1 hb2 => FnOk.any (hF base hb1 hb2)⟩
end Cut


set_option Elab.async false
set_option linter.all false
set_option maxRecDepth 100000
set_option maxHeartbeats 1000000
/-! Plain, part 1: operators on data that are told. -/
namespace Cut
open PySem Mi
open L2 (atI ixN atI_nat)
@[simp] theorem set_ok {i : Nat} {s : Slot} {sl : List Slot} {row : RowS} (h : i < sl.length) : setR i s sl row = .ok () ⟨sl.set i s, row⟩ := if_pos h
@[simp] theorem sml_ok {α : Type} {l : List α} (h : l.length ≤ 1000000) (e : Mi.Env) : small l e = .ok () e := if_pos h
/-! numbers -/
@[simp] theorem add_ii (i j : Int) : addF (.int i) (.int j) = some (.int (i + j)) := rfl
@[simp] theorem sub_ii (i j : Int) : subF (.int i) (.int j) = some (.int (i - j)) := rfl
@[simp] theorem augadd_ii (i j : Int) : intF (fun _ _ => true) (fun x1 x2 => x1 + x2) (.int i) (.int j) = some (.int (i + j)) := rfl
@[simp] theorem augsub_ii (i j : Int) : intF (fun _ _ => true) (fun x1 x2 => x1 - x2) (.int i) (.int j) = some (.int (i - j)) := rfl
@[simp] theorem ge_ii (i j : Int) : geF (.int i) (.int j) = some (.bl (decide (j ≤ i))) := rfl
@[simp] theorem le_ii (i j : Int) : ordF .le (.int i) (.int j) = some (.bl (decide (i ≤ j))) := rfl
@[simp] theorem lt_ii (i j : Int) : ordF .lt (.int i) (.int j) = some (.bl (decide (i < j))) := rfl
@[simp] theorem gt_ii (i j : Int) : ordF .gt (.int i) (.int j) = some (.bl (decide (j < i))) := rfl
@[simp] theorem eq_ii (i j : Int) : eqF (.int i) (.int j) = some (.bl (decide (i = j))) := by
  show some (D.bl (i == j)) = _
  rfl
@[simp] theorem ne_ii (i j : Int) : neF (.int i) (.int j) = some (.bl (!decide (i = j))) := by
  show some (D.bl (!(i == j))) = _
  rfl
@[simp] theorem eq_in (i : Int) : eqF (.int i) .non = some (.bl false) := rfl
@[simp] theorem isN_int (i : Int) : isNF (.int i) = some (.bl false) := rfl
@[simp] theorem isN_non : isNF .non = some (.bl true) := rfl
@[simp] theorem isN_tup (l : List D) : isNF (.tup l) = some (.bl false) := rfl
@[simp] theorem notN_int (i : Int) : notNF (.int i) = some (.bl true) := rfl
@[simp] theorem notN_non : notNF .non = some (.bl false) := rfl
@[simp] theorem notN_tup (l : List D) : notNF (.tup l) = some (.bl true) := rfl
@[simp] theorem toInt_i (i : Int) : toIntF (.int i) = some (.int i) := rfl
@[simp] theorem toInt_b (b : Bool) : toIntF (.bl b) = some (.int (if b then 1 else 0)) := rfl
@[simp] theorem len_t (l : List D) : lenF (.tup l) = some (.int l.length) := rfl
@[simp] theorem len_l (l : List D) : lenF (.lst l) = some (.int l.length) := rfl
@[simp] theorem items_t (l : List D) : D.items (.tup l) = some l := rfl
@[simp] theorem items_l (l : List D) : D.items (.lst l) = some l := rfl
@[simp] theorem itemsD_t (l : List D) : itemsD (.tup l) = some l := rfl
@[simp] theorem itemsD_l (l : List D) : itemsD (.lst l) = some l := rfl
@[simp] theorem enum1_t (l : List D) : enum1D [.tup l] = some (enumL l) := rfl
@[simp] theorem enum1_l (l : List D) : enum1D [.lst l] = some (enumL l) := rfl
@[simp] theorem zipD_ll (l m : List D) : zipD [.lst l, .lst m] = some (zipL l m) := rfl
@[simp] theorem tuple_l (l : List D) : tupleF (.lst l) = some (.tup l) := rfl
@[simp] theorem tuple_t (l : List D) : tupleF (.tup l) = some (.tup l) := rfl
@[simp] theorem listO_l (l : List D) : listO (.lst l) = some (.lst l) := rfl
@[simp] theorem listO_t (l : List D) : listO (.tup l) = some (.lst l) := rfl
@[simp] theorem fld0 (a : D) (l : List D) : fldF 0 (.obj (a :: l)) = some a := rfl
@[simp] theorem fld1 (a b : D) (l : List D) : fldF 1 (.obj (a :: b :: l)) = some b := rfl
@[simp] theorem fld2 (a b c : D) (l : List D) : fldF 2 (.obj (a :: b :: c :: l)) = some c := rfl
@[simp] theorem fld3 (a b c d : D) (l : List D) : fldF 3 (.obj (a :: b :: c :: d :: l)) = some d := rfl
@[simp] theorem fld4 (a b c d e : D) (l : List D) : fldF 4 (.obj (a :: b :: c :: d :: e :: l)) = some e := rfl
@[simp] theorem min2_ii (i j : Int) : min2F [.int i, .int j] = some (.int (min i j)) := rfl
@[simp] theorem max2_ii (i j : Int) : max2F [.int i, .int j] = some (.int (max i j)) := rfl
@[simp] theorem all_map (l : List Bool) : allF (.lst (l.map D.bl)) = some (.bl (l.all id)) := by simp [allF, blsOf_map]
@[simp] theorem all_comp {α : Type} (g : α → Bool) (l : List α) : allF (.lst (l.map (D.bl ∘ g))) = some (.bl (l.all g)) := by
  rw [← List.map_map, all_map, List.all_map]
  rfl
@[simp] theorem any_map (l : List Bool) : anyF (.lst (l.map D.bl)) = some (.bl (l.any id)) := by simp [anyF, blsOf_map]
@[simp] theorem any_comp {α : Type} (g : α → Bool) (l : List α) : anyF (.lst (l.map (D.bl ∘ g))) = some (.bl (l.any g)) := by
  rw [← List.map_map, any_map, List.any_map]
  rfl
@[simp] theorem chD_ii (o o' : Int → Int → Bool) (i j : Int) (k : M D) (e : Mi.Env) (t : Tag k) : chD o o' (.int i) (.int j) k e t = iteR (o i j) (bindM k fun z => match z with
    | .int l => pureM (.bl (o' j l))
    | _ => errM) (pureM (.bl false)) e := by
  unfold chD iteR
  by_cases c : o i j = true
  · simp only [if_pos c]
    rfl
  · simp only [if_neg c]
    rfl
theorem range1_ok {j : Int} (h : okI j = true) : range1D [.int j] = some (rngL 0 j) := by simp [range1D, h]
theorem range2_ok {i j : Int} (h : okI i = true) (h' : okI j = true) : range2D [.int i, .int j] = some (rngL i j) := by simp [range2D, h, h']
theorem okI_small {j : Int} (h : -1000000000 ≤ j) (h' : j ≤ 1000000000) : okI j = true := by
  unfold okI
  simp only [decide_eq_true_eq]
  omega
@[simp] theorem okI_nat {n : Nat} (h : n ≤ 1000000000) : okI (n : Int) = true := okI_small (by omega) (by omega)
/-! subscripts -/
@[simp] theorem ix_t (l : List D) (i : Int) : ixF (.tup l) (.int i) = atI l i := rfl
@[simp] theorem ix_l (l : List D) (i : Int) : ixF (.lst l) (.int i) = atI l i := rfl
@[simp] theorem at0 {α : Type} (a : α) (l : List α) : atI (a :: l) 0 = some a := by simp [atI, ixN]
theorem at_nat {α : Type} {l : List α} {n : Nat} {a : α} (h : l[n]? = some a) : atI l (n : Int) = some a := atI_nat h
@[simp] theorem at1 {α : Type} (a b : α) (l : List α) : atI (a :: b :: l) 1 = some b := at_nat (n := 1) rfl
@[simp] theorem at2 {α : Type} (a b c : α) (l : List α) : atI (a :: b :: c :: l) 2 = some c := at_nat (n := 2) rfl
@[simp] theorem at3 {α : Type} (a b c d : α) (l : List α) : atI (a :: b :: c :: d :: l) 3 = some d := at_nat (n := 3) rfl
@[simp] theorem at4 {α : Type} (a b c d e : α) (l : List α) : atI (a :: b :: c :: d :: e :: l) 4 = some e := at_nat (n := 4) rfl
/-! tuples of numbers -/
def iD (l : List Int) : D := .tup (l.map D.int)
def wD (l : List (List Int)) : List D := l.map iD
@[simp] theorem items_iD (l : List Int) : D.items (iD l) = some (l.map D.int) := rfl
@[simp] theorem itemsD_iD (l : List Int) : itemsD (iD l) = some (l.map D.int) := rfl
@[simp] theorem len_iD (l : List Int) : lenF (iD l) = some (.int l.length) := by simp [iD]
@[simp] theorem isi_iD (l : List Int) : isiF "tuple" (iD l) = some (.bl true) := by rfl
@[simp] theorem ix_iD (l : List Int) (i : Int) : ixF (iD l) (.int i) = atI (l.map D.int) i := rfl
@[simp] theorem tup_snoc (l : List Int) (s : Int) : D.tup (l.map D.int ++ [D.int s]) = iD (l ++ [s]) := by simp [iD]
@[simp] theorem enum_iD (l : List Int) : enum1D [iD l] = some (enumL (l.map D.int)) := rfl
theorem eqvs_ints : ∀ a b : List Int, D.eqvs (a.map D.int) (b.map D.int) = decide (a = b)
  | [], [] => rfl
  | [], _ :: _ => rfl
  | _ :: _, [] => rfl
  | x :: a, y :: b => by
    simp only [List.map_cons, D.eqvs, D.eqv, eqvs_ints a b, List.cons.injEq]
    by_cases h : x = y <;> by_cases h' : a = b <;> simp [h, h']
theorem plains_ints (n : Nat) : ∀ a : List Int, D.plains n (a.map D.int) = true
  | [] => by cases n <;> rfl
  | x :: a => by
    simp only [List.map_cons, D.plains, plains_ints n a, Bool.and_true]
    cases n <;> rfl
@[simp] theorem plain_iD (n : Nat) (a : List Int) : (iD a).plain (n + 1) = true := plains_ints n a
theorem eqv_iD (a b : List Int) : (iD a).eqv (iD b) = decide (a = b) := eqvs_ints a b
theorem plains_wD (n : Nat) : ∀ a : List (List Int), D.plains (n + 1) (wD a) = true
  | [] => rfl
  | x :: a => by
    show (D.plain (n + 1) (iD x) && D.plains (n + 1) (wD a)) = true
    rw [plain_iD, plains_wD n a]
    rfl
@[simp] theorem in_w (a : List Int) (l : List (List Int)) : inF false (iD a) (.tup (wD l)) = some (.bl (decide (a ∈ l))) := by
  simp only [inF, plain_iD, plains_wD, Bool.and_self, if_true, Bool.false_eq_true, if_false]
  congr 2
  unfold wD
  rw [List.any_map]
  induction l with
  | nil => rfl
  | cons x l ih =>
    simp only [List.any_cons, Function.comp_apply, eqv_iD, List.mem_cons] at ih ⊢
    rw [ih]
    by_cases h : x = a <;> by_cases h' : a ∈ l <;> simp [h, h', eq_comm (a := a)]
@[simp] theorem eq_iD (a b : List Int) : eqF (iD a) (iD b) = some (.bl (decide (a = b))) := by
  simp [eqF, eqv_iD]
@[simp] theorem ne_iD (a b : List Int) : neF (iD a) (iD b) = some (.bl (!decide (a = b))) := by
  simp [neF, eqv_iD]
/-- a list of numbers -/
def lD (l : List Int) : D := .lst (l.map D.int)
@[simp] theorem eq_lD (a b : List Int) : eqF (lD a) (lD b) = some (.bl (decide (a = b))) := by
  simp [eqF, lD, D.plain, plains_ints, D.eqv, eqvs_ints]
@[simp] theorem ne_lD (a b : List Int) : neF (lD a) (lD b) = some (.bl (!decide (a = b))) := by
  simp [neF, lD, D.plain, plains_ints, D.eqv, eqvs_ints]
theorem eqvs_w : ∀ a b : List (List Int), D.eqvs (wD a) (wD b) = decide (a = b)
  | [], [] => rfl
  | [], _ :: _ => rfl
  | _ :: _, [] => rfl
  | x :: a, y :: b => by
    show (D.eqv (iD x) (iD y) && D.eqvs (wD a) (wD b)) = _
    rw [eqv_iD, eqvs_w a b]
    by_cases h : x = y <;> by_cases h' : a = b <;> simp [h, h']
@[simp] theorem eq_wl (a b : List (List Int)) : eqF (.lst (wD a)) (.lst (wD b)) = some (.bl (decide (a = b))) := by
  simp [eqF, D.plain, plains_wD, D.eqv, eqvs_w]
@[simp] theorem ne_wl (a b : List (List Int)) : neF (.lst (wD a)) (.lst (wD b)) = some (.bl (!decide (a = b))) := by
  simp [neF, D.plain, plains_wD, D.eqv, eqvs_w]
/-! words in their order -/
def lexLe : List Int → List Int → Bool
  | [], _ => true
  | _ :: _, [] => false
  | x :: xs, y :: ys => if x = y then lexLe xs ys else decide (x ≤ y)
theorem cmps_le : ∀ (n : Nat) (xs ys : List Int), D.cmps .le n (xs.map D.int) (ys.map D.int) (decide (xs.length ≤ ys.length)) = some (lexLe xs ys) := by
  intro n xs
  have main : ∀ (ys : List Int) (z : Bool), (z = decide (xs.length ≤ ys.length)) → D.cmps .le n (xs.map D.int) (ys.map D.int) z = some (lexLe xs ys) := by
    induction xs with
    | nil =>
      intro ys z hz
      cases ys <;> (simp [D.cmps, lexLe, hz])
    | cons x xs ih =>
      intro ys z hz
      cases ys with
      | nil => simp [D.cmps, lexLe, hz]
      | cons y ys =>
        have := ih ys z (by rw [hz]; simp)
        simp only [List.map_cons, D.cmps, this]
        have hp : ((D.int x).plain 20 && (D.int y).plain 20) = true := rfl
        rw [if_pos hp]
        have he : (D.int x).eqv (D.int y) = decide (x = y) := rfl
        rw [he]
        by_cases h : x = y
        · simp [h, lexLe]
        · simp only [h, decide_false, lexLe, if_false]
          cases n <;> rfl
  exact fun ys => main ys _ rfl
@[simp] theorem le_w (a b : List Int) : ordF .le (iD a) (iD b) = some (.bl (lexLe a b)) := by
  have h1 : (iD a).plain 20 = true := plain_iD 19 a
  have h2 : (iD b).plain 20 = true := plain_iD 19 b
  unfold ordF
  rw [h1, h2]
  simp only [Bool.and_self, if_true]
  have : D.cmp .le 10 (iD a) (iD b) = some (lexLe a b) := by
    have := cmps_le 9 a b
    unfold iD D.cmp
    simpa [Ord3.len] using this
  rw [this]
  rfl
/-! slices -/
theorem cutD_map (l : List Int) (lo hi : Option Int) : ∃ m, cutD (l.map D.int) lo hi = m.map D.int ∧ m = (l.drop (HT.sIx l.length 0 lo)).take (HT.sIx l.length l.length hi - HT.sIx l.length 0 lo) := by
  refine ⟨_, ?_, rfl⟩
  unfold cutD
  simp [List.map_take, List.map_drop]
/-- x[lo:hi] of a tuple of numbers -/
def cutI (l : List Int) (lo hi : Option Int) : List Int := (l.drop (HT.sIx l.length 0 lo)).take (HT.sIx l.length l.length hi - HT.sIx l.length 0 lo)
@[simp] theorem cut_iD (l : List Int) (lo hi : Option Int) : cutF (iD l) lo hi = some (iD (cutI l lo hi)) := by
  obtain ⟨m, h1, rfl⟩ := cutD_map l lo hi
  unfold iD cutF
  simp only
  rw [h1]
  rfl
/-! loops -/
theorem for_nx {g : D → M Unit} {b : M Fl} {d : D} {ds : List D} {e e1 e2 : Mi.Env} (hg : g d e = .ok () e1) (hb : b e1 = .ok .nx e2) : forM' g b (d :: ds) e = forM' g b ds e2 := by
  rw [forM'_cons, hg]
  simp [hb]
theorem for_rt {g : D → M Unit} {b : M Fl} {d v : D} {ds : List D} {e e1 e2 : Mi.Env} (hg : g d e = .ok () e1) (hb : b e1 = .ok (.rt v) e2) : forM' g b (d :: ds) e = .ok (.rt v) e2 := by
  rw [forM'_cons, hg]
  simp [hb]
theorem for_exc {g : D → M Unit} {b : M Fl} {d : D} {x : Exn} {ds : List D} {e e1 e2 : Mi.Env} (hg : g d e = .ok () e1) (hb : b e1 = .exc x e2) : forM' g b (d :: ds) e = .exc x e2 := by
  rw [forM'_cons, hg]
  simp [hb]
/-- things with their numbers, from k on -/
def enumF {α : Type} (f : α → D) (k : Nat) (l : List α) : List D := (l.zipIdx k).map fun (w, (k : Nat)) => .tup [.int k, f w]
@[simp] theorem enumF_nil {α : Type} (f : α → D) (k : Nat) : enumF f k [] = [] := rfl
@[simp] theorem enumF_cons {α : Type} (f : α → D) (k : Nat) (a : α) (l : List α) : enumF f k (a :: l) = .tup [.int k, f a] :: enumF f (k + 1) l := by
  unfold enumF
  rw [List.zipIdx_cons]
  rfl
theorem enumL_map {α : Type} (f : α → D) (l : List α) : enumL (l.map f) = enumF f 0 l := by
  unfold enumL enumF
  have : ∀ (k : Nat), ((l.map f).zipIdx k).map (fun (d, (i : Nat)) => D.tup [.int i, d]) = (l.zipIdx k).map fun (w, (k : Nat)) => D.tup [.int k, f w] := by
    induction l with
    | nil => exact fun _ => rfl
    | cons a l ih =>
      intro k
      simp only [List.map_cons, List.zipIdx_cons]
      rw [ih]
  exact this 0
end Cut


set_option Elab.async false
set_option linter.all false
set_option maxRecDepth 100000
set_option maxHeartbeats 1000000
/-! Plain, part 2: comprehensions; rules; steps. -/
namespace Cut
open PySem Mi
open L2 (atI ixN atI_nat)
/-! comprehensions -/
inductive All2 {α β : Type} (P : α → β → Prop) : List α → List β → Prop
  | nil : All2 P [] []
  | cons {a b l m} : P a b → All2 P l m → All2 P (a :: l) (b :: m)
theorem All2.length {α β : Type} {P : α → β → Prop} {l : List α} {m : List β} (h : All2 P l m) : l.length = m.length := by
  induction h with
  | nil => rfl
  | cons _ _ ih => simp [ih]
theorem wipe_one (sl : List Slot) (i : Nat) (d : Slot) : wipeS (sl.set i d) [i] = sl.set i .no := by
  unfold wipeS wipeS
  rw [List.set_set]
theorem rest_one (sl : List Slot) (i : Nat) (hi : i < sl.length) : restS (sl.set i .no) sl [i] = sl := by
  unfold restS restS
  rw [List.set_set, List.getElem?_eq_getElem hi]
  simp
/-- each thing tested, then told, the row going on -/
theorem lcGo_ex {i : Nat} {t : M Bool} {el : M D} {sl : List Slot} (I : RowS → Prop) (P : D → D → Prop) (hi : i < sl.length) : ∀ (ds acc : List D) (row : RowS), I row → (acc.length + ds.length ≤ 1000000) →
    (∀ d ∈ ds, ∀ row, I row → (∃ row', t ⟨sl.set i (.val d), row⟩ = .ok false ⟨sl.set i (.val d), row'⟩ ∧ I row') ∨ ∃ row1 row' y, t ⟨sl.set i (.val d), row⟩ = .ok true ⟨sl.set i (.val d), row1⟩ ∧ el ⟨sl.set i (.val d), row1⟩ = .ok y ⟨sl.set i (.val d), row'⟩ ∧ P d y ∧ I row') →
    ∃ ys zs row', lcGo (gN i) t el [i] ds acc ⟨sl.set i .no, row⟩ = .ok (acc ++ ys) ⟨sl.set i .no, row'⟩ ∧ List.Sublist zs ds ∧ All2 P zs ys ∧ I row'
  | [], acc, row, hI, _, _ => ⟨[], [], row, by simp, .slnil, .nil, hI⟩
  | d :: ds, acc, row, hI, hl, h => by
    have hi2 : i < (sl.set i Slot.no).length := by simpa using hi
    have ih := lcGo_ex (t := t) (el := el) I P hi ds
    rcases h d List.mem_cons_self row hI with ⟨row', ht, hI'⟩ | ⟨row1, row', y, ht, he, hp, hI'⟩
    · obtain ⟨ys, zs, row2, h1, h2, h3, h4⟩ := ih acc row' hI' (by simp at hl ⊢; omega) fun x hx => h x (List.mem_cons_of_mem _ hx)
      refine ⟨ys, zs, row2, ?_, .cons _ h2, h3, h4⟩
      rw [lcGo_cons]
      simp [hi, List.set_set, ht, wipeE, wipe_one, h1]
    · obtain ⟨ys, zs, row2, h1, h2, h3, h4⟩ := ih (acc ++ [y]) row' hI' (by simp at hl ⊢; omega) fun x hx => h x (List.mem_cons_of_mem _ hx)
      refine ⟨y :: ys, d :: zs, row2, ?_, List.Sublist.cons_cons _ h2, .cons hp h3, h4⟩
      rw [lcGo_cons]
      have hz : acc.length + 1 ≤ 1000000 := by simp at hl ⊢; omega
      simp [hi, hz, List.set_set, ht, he, wipeE, wipe_one, h1]
theorem lc_ex {i : Nat} {t : M Bool} {el : M D} {sl : List Slot} (I : RowS → Prop) (P : D → D → Prop) (hi : i < sl.length) (hno : (((sl[i]?).getD .no).isOwn) = false) (ds : List D) (row : RowS) (hI : I row) (hl : ds.length ≤ 1000000)
    (h : ∀ d ∈ ds, ∀ row, I row → (∃ row', t ⟨sl.set i (.val d), row⟩ = .ok false ⟨sl.set i (.val d), row'⟩ ∧ I row') ∨ ∃ row1 row' y, t ⟨sl.set i (.val d), row⟩ = .ok true ⟨sl.set i (.val d), row1⟩ ∧ el ⟨sl.set i (.val d), row1⟩ = .ok y ⟨sl.set i (.val d), row'⟩ ∧ P d y ∧ I row') :
    ∃ ys zs row', lcRun (gN i) t el [i] ds ⟨sl, row⟩ = .ok (.lst ys) ⟨sl, row'⟩ ∧ List.Sublist zs ds ∧ All2 P zs ys ∧ I row' := by
  obtain ⟨ys, zs, row', h1, h2, h3, h4⟩ := lcGo_ex I P hi ds [] row hI (by simpa using hl) h
  refine ⟨ys, zs, row', ?_, h2, h3, h4⟩
  unfold lcRun
  have hn : noOwn sl [i] = true := by simp [noOwn, hno]
  simp only [hn, if_true]
  have hw : wipeE ⟨sl, row⟩ [i] = ⟨sl.set i .no, row⟩ := rfl
  rw [hw, h1]
  simp [restE, rest_one sl i hi]
/-- each thing told by a function, nothing changed -/
theorem lc_map {i : Nat} {el : M D} {sl : List Slot} (f : D → D) (hi : i < sl.length) (hno : (((sl[i]?).getD .no).isOwn) = false) (ds : List D) (row : RowS) (hl : ds.length ≤ 1000000)
    (h : ∀ d ∈ ds, el ⟨sl.set i (.val d), row⟩ = .ok (f d) ⟨sl.set i (.val d), row⟩) : lcRun (gN i) (pureM true) el [i] ds ⟨sl, row⟩ = .ok (.lst (ds.map f)) ⟨sl, row⟩ := by
  have hlcGo : ∀ (ds acc : List D), (acc.length + ds.length ≤ 1000000) → (∀ d ∈ ds, el ⟨sl.set i (.val d), row⟩ = .ok (f d) ⟨sl.set i (.val d), row⟩) →
      lcGo (gN i) (pureM true) el [i] ds acc ⟨sl.set i .no, row⟩ = .ok (acc ++ ds.map f) ⟨sl.set i .no, row⟩ := by
    intro ds
    induction ds with
    | nil => exact fun acc _ _ => by simp
    | cons d ds ih =>
      intro acc hl h
      have hi2 : i < (sl.set i Slot.no).length := by simpa using hi
      have he := h d List.mem_cons_self
      have h1 := ih (acc ++ [f d]) (by simp at hl ⊢; omega) fun x hx => h x (List.mem_cons_of_mem _ hx)
      rw [lcGo_cons]
      have hz : acc.length + 1 ≤ 1000000 := by simp at hl ⊢; omega
      simp [hi, hz, List.set_set, he, wipeE, wipe_one, h1]
  unfold lcRun
  have hn : noOwn sl [i] = true := by simp [noOwn, hno]
  simp only [hn, if_true]
  have hw : wipeE ⟨sl, row⟩ [i] = ⟨sl.set i .no, row⟩ := rfl
  rw [hw, hlcGo ds [] (by simpa using hl) h]
  simp [restE, rest_one sl i hi]
/-! rules -/
structure PR where
  many : Int
  wide : Nat
  rows : List (List Int)
  low : Int
  high : Option Int
def hD : Option Int → D
  | none => .non
  | some i => .int i
def PR.ds (r : PR) : List D := [.int r.many, .int r.wide, .tup (wD r.rows), .int r.low, hD r.high]
def PR.d (r : PR) : D := .obj r.ds
def PR.t (r : PR) : D := .tup r.ds
def isFrom (d : D) (lo hi : Int) : Bool := match d with
  | .int i => decide (lo ≤ i) && decide (i ≤ hi)
  | _ => false
@[simp] theorem isFrom_i (i lo hi : Int) : isFrom (.int i) lo hi = (decide (lo ≤ i) && decide (i ≤ hi)) := rfl
theorem e_is_from (d : D) (hd : d ≠ .row) (lo hi : Int) (row : RowS) : F_is_from [d, .int lo, .int hi] row = .ret (.bl (isFrom d lo hi)) row := by
  cases d with
  | row => exact absurd rfl hd
  | int i => by_cases h : lo ≤ i <;> simp [F_is_from, fnM_app, m_is_from, h]
  | _ => simp [F_is_from, fnM_app, m_is_from, isFrom]
@[simp] theorem e_is_from_i (i lo hi : Int) (row : RowS) : F_is_from [.int i, .int lo, .int hi] row = .ret (.bl (decide (lo ≤ i) && decide (i ≤ hi))) row := e_is_from _ (by simp) _ _ _
theorem e_check_shape {many wide : Int} (h1 : 2 ≤ many) (h2 : many ≤ 3) (h3 : 1 ≤ wide) (h4 : wide ≤ 3) (row : RowS) : F_check_shape [.int many, .int wide] row = .ret .non row := by
  simp [F_check_shape, fnM_app, m_check_shape, h1, h2, h3, h4]
theorem e_check_lengths {low : Int} {high : Option Int} (h1 : 1 ≤ low) (h2 : low ≤ 6) (h3 : ∀ h, high = some h → low ≤ h ∧ h ≤ 8) (row : RowS) : F_check_lengths [.int low, hD high] row = .ret .non row := by
  cases high with
  | none => simp [F_check_lengths, fnM_app, m_check_lengths, hD, h1, h2]
  | some h =>
    obtain ⟨a, b⟩ := h3 h rfl
    simp [F_check_lengths, fnM_app, m_check_lengths, hD, h1, h2, a, b]
theorem map_bl (l : List Int) (f : D → D) (g : Int → Bool) (h : ∀ x ∈ l, f (.int x) = .bl (g x)) : (l.map D.int).map f = (l.map g).map D.bl := by
  rw [List.map_map, List.map_map]
  exact List.map_congr_left h
theorem e_is_word {signs : Int} {window : Nat} (w : List Int) (hl : w.length ≤ 1000) (row : RowS) : F_is_word [.int signs, .int window, iD w] row = .ret (.bl (decide (w.length = window) && w.all fun x => decide (0 ≤ x) && decide (x ≤ signs - 1))) row := by
  by_cases c : w.length = window
  · have key := lc_map (i := 3) (el := c_is_word_1) (sl := [.val (.int signs), .val (.int window), .val (iD w), .no]) (fun d => .bl (isFrom d 0 (signs - 1))) (by simp) rfl (w.map D.int) row (by simpa using Nat.le_trans hl (by decide)) (fun d hd => by
      obtain ⟨x, hx, rfl⟩ := List.mem_map.mp hd
      simp [c_is_word_1])
    rw [map_bl w _ (fun x => decide (0 ≤ x) && decide (x ≤ signs - 1)) (fun _ _ => rfl)] at key
    simp [F_is_word, fnM_app, m_is_word, iD, c]
    simp only [iD] at key
    simp [key]
  · have c' : ¬ ((w.length : Int) = (window : Int)) := by omega
    simp [F_is_word, fnM_app, m_is_word, iD, c, c']
/-! Rule(..) -/
def wordOk (many : Int) (wide : Nat) (w : List Int) : Prop := w.length = wide ∧ ∀ x ∈ w, 0 ≤ x ∧ x ≤ many - 1
/-- ascending, one behind another -/
def Asc : List (List Int) → Prop
  | [] => True
  | [_] => True
  | a :: b :: l => lexLe b a = false ∧ Asc (b :: l)
structure PR.Ok (r : PR) : Prop where
  m1 : 2 ≤ r.many
  m2 : r.many ≤ 3
  w1 : 1 ≤ r.wide
  w2 : r.wide ≤ 3
  ws : ∀ w ∈ r.rows, wordOk r.many r.wide w
  asc : Asc r.rows
  l1 : 1 ≤ r.low
  l2 : r.low ≤ 6
  hi : ∀ h, r.high = some h → r.low ≤ h ∧ h ≤ 8
  sz : r.rows.length ≤ 1000
theorem wordOk.all {many : Int} {wide : Nat} {w : List Int} (h : wordOk many wide w) : (decide (w.length = wide) && w.all fun x => decide (0 ≤ x) && decide (x ≤ many - 1)) = true := by
  simp only [Bool.and_eq_true, decide_eq_true_eq, List.all_eq_true]
  exact h
theorem asc_at : ∀ (p : List (List Int)) (v w : List Int) (q : List (List Int)), Asc (p ++ v :: w :: q) → lexLe w v = false
  | [], v, w, q, h => h.1
  | [x], v, w, q, h => asc_at [] v w q h.2
  | x :: y :: p, v, w, q, h => asc_at (y :: p) v w q h.2
/-- the words' loop, behind some of them -/
theorem e_rule_loop {r : PR} (ok : r.Ok) (row : RowS) : ∀ (todo done : List (List Int)), r.rows = done ++ todo → ∀ (s6 s7 : Slot), ∃ s6' s7', forM' (gTupM 2 (gsCons (gN 6) (gsCons (gN 7) (gsNil)))) b_Rule_1 (enumF iD done.length todo)
      ⟨[.pin, .val (.int r.many), .val (.int r.wide), .val (.tup (wD r.rows)), .val (.int r.low), .val (hD r.high), s6, s7], row⟩ =
      .ok .nx ⟨[.pin, .val (.int r.many), .val (.int r.wide), .val (.tup (wD r.rows)), .val (.int r.low), .val (hD r.high), s6', s7'], row⟩
  | [], done, h, s6, s7 => ⟨s6, s7, by simp⟩
  | w :: todo, done, h, s6, s7 => by
    have hw : w ∈ r.rows := by rw [h]; simp
    have ow := ok.ws w hw
    have hl : w.length ≤ 1000 := by rw [ow.1]; have := ok.w2; omega
    obtain ⟨a, b, ih⟩ := e_rule_loop ok row todo (done ++ [w]) (by simp [h]) (.val (.int done.length)) (.val (iD w))
    refine ⟨a, b, ?_⟩
    have isw := e_is_word (signs := r.many) (window := r.wide) w hl row
    rw [ow.all] at isw
    have hb : b_Rule_1 ⟨[.pin, .val (.int r.many), .val (.int r.wide), .val (.tup (wD r.rows)), .val (.int r.low), .val (hD r.high), .val (.int done.length), .val (iD w)], row⟩ = .ok .nx ⟨[.pin, .val (.int r.many), .val (.int r.wide), .val (.tup (wD r.rows)), .val (.int r.low), .val (hD r.high), .val (.int done.length), .val (iD w)], row⟩ := by
      rcases List.eq_nil_or_concat done with hd | ⟨pre, v, hd⟩
      · subst hd
        simp [b_Rule_1, isw]
      · have hd' : done = pre ++ [v] := by simpa using hd
        subst hd'
        have hix : atI (wD r.rows) (pre.length : Int) = some (iD v) := by
          refine at_nat ?_
          rw [h]
          unfold wD
          simp
        have hasc : lexLe w v = false := asc_at pre v w todo (by
          have := ok.asc
          rw [h] at this
          simpa using this)
        have hpos : (0 : Int) < (pre.length : Int) + 1 := by omega
        simp [b_Rule_1, isw, hix, hasc, hpos]
    rw [enumF_cons, for_nx (e1 := ⟨[.pin, .val (.int r.many), .val (.int r.wide), .val (.tup (wD r.rows)), .val (.int r.low), .val (hD r.high), .val (.int done.length), .val (iD w)], row⟩) (by simp) hb]
    have e1 : done.length + 1 = (done ++ [w]).length := by simp
    rw [e1]
    exact ih
theorem e_Rule {r : PR} (ok : r.Ok) (row : RowS) : F_Rule r.ds row = .ret r.d row := by
  obtain ⟨a, b, hl⟩ := e_rule_loop ok row r.rows [] rfl .no .no
  have h1 := e_check_shape ok.m1 ok.m2 (wide := (r.wide : Int)) (by have := ok.w1; omega) (by have := ok.w2; omega) row
  have h2 := e_check_lengths ok.l1 ok.l2 ok.hi row
  have he : enumL (wD r.rows) = enumF iD 0 r.rows := enumL_map iD r.rows
  simp only [List.length_nil] at hl
  unfold F_Rule initM
  have : m_Rule ⟨.pin :: r.ds.map Slot.val ++ [.no, .no], row⟩ = .ok .nx ⟨[.pin, .val (.int r.many), .val (.int r.wide), .val (.tup (wD r.rows)), .val (.int r.low), .val (hD r.high), a, b], row⟩ := by
    simp [m_Rule, PR.ds, h1, h2, he, hl]
  rw [this]
  rfl
/-! a step -/
def lastN (w : Nat) (l : List Int) : List Int := l.drop (l.length - w)
abbrev Stand : Type := List Int × Int
def stD (st : Stand) : D := .tup [iD st.1, .int st.2]
def does (r : PR) (st : Stand) (s : Int) : Bool := (decide (r.low ≤ st.2 + 1) && decide (lastN r.wide (st.1 ++ [s]) ∈ r.rows)) || decide (some (st.2 + 1) = r.high)
def stepP (r : PR) (st : Stand) (s : Int) : Stand := (lastN r.wide (st.1 ++ [s]), if does r st s = true then 0 else match r.high with
  | some _ => st.2 + 1
  | none => min (st.2 + 1) r.low)
end Cut


set_option Elab.async false
set_option linter.all false
set_option maxRecDepth 100000
set_option maxHeartbeats 1000000
/-! Plain, part 3: texts, cuts. -/
namespace Cut
open PySem Mi
open L2 (atI ixN atI_nat)
/-! cuts_of -/
def endP (r : PR) : Stand → List Int → Stand
  | st, [] => st
  | st, s :: t => endP r (stepP r st s) t
def begin0 : Stand := ([], 0)
theorem lastN_le (w : Nat) (l : List Int) : (lastN w l).length ≤ w := by
  unfold lastN
  rw [List.length_drop]
  omega
theorem step_le (r : PR) (st : Stand) (s : Int) : (stepP r st s).1.length ≤ r.wide := lastN_le _ _
/-! is_text -/
def signsOk (r : PR) (l : List Int) : Bool := l.all fun x => decide (0 ≤ x) && decide (x ≤ r.many - 1)
end Cut


set_option Elab.async false
set_option linter.all false
set_option maxRecDepth 100000
set_option maxHeartbeats 1000000
/-! Plain, part 4: what is drawn. -/
namespace Cut
open PySem Mi
open L2 (atI ixN atI_nat)
@[simp] theorem rowM_0 (k : Nat) (sl : List Mi.Slot) (row : RowS) : rowM 0 k ⟨Mi.Slot.val D.row :: sl, row⟩ = .ok (row.get k) ⟨Mi.Slot.val D.row :: sl, row⟩ := rfl
@[simp] theorem get0 (r : RowS) : r.get 0 = .lst (r.xs.map D.int) := rfl
@[simp] theorem get1 (r : RowS) : r.get 1 = .int r.at_ := rfl
@[simp] theorem get2 (r : RowS) : r.get 2 = .int r.big := rfl
@[simp] theorem get3 (r : RowS) : r.get 3 = .int r.seed := rfl
def rwR (k : Nat) (d : D) (e : Mi.Env) : Res Fl := match d with
  | .int n => (match e.sl[0]? with
    | some (Mi.Slot.val D.row) => .ok .nx { e with row := e.row.put k n }
    | _ => .err)
  | _ => .err
@[simp ↓] theorem rowSet_app (k : Nat) (m : M D) (e : Mi.Env) : rowSet 0 k m e = (m e).bind (rwR k) := by
  unfold rowSet bindM Res.bind
  cases m e with
  | ok d e1 =>
    cases d with
    | int n =>
      show (match e1.sl[0]? with
        | some (Mi.Slot.val D.row) => Res.ok Fl.nx { e1 with row := e1.row.put k n }
        | _ => .err) = rwR k (.int n) e1
      unfold rwR
      rfl
    | _ => rfl
  | exc x e1 => rfl
  | err => rfl
@[simp] theorem rwR_int (k : Nat) (n : Int) (sl : List Mi.Slot) (row : RowS) : rwR k (.int n) ⟨Mi.Slot.val D.row :: sl, row⟩ = .ok .nx ⟨Mi.Slot.val D.row :: sl, row.put k n⟩ := rfl
theorem mulC_right (i j : Int) (h : -(2 ^ 64) < j ∧ j < 2 ^ 64) : mulC i j = true := by
  unfold mulC
  simp only [Bool.or_eq_true, Bool.and_eq_true, decide_eq_true_eq]
  exact .inr (.inl h)
theorem mul_small (i j : Int) (h : -(2 ^ 64) < j ∧ j < 2 ^ 64) : mulF (.int i) (.int j) = some (.int (i * j)) := by
  simp only [mulF, mulC_right i j h, if_true]
@[simp] theorem mul_a (i : Int) : mulF (.int i) (.int 48271) = some (.int (i * 48271)) := mul_small _ _ (by decide)
@[simp] theorem mul_b (i : Int) : mulF (.int i) (.int 69621) = some (.int (i * 69621)) := mul_small _ _ (by decide)
@[simp] theorem mul_c (i : Int) : mulF (.int i) (.int 16807) = some (.int (i * 16807)) := mul_small _ _ (by decide)
theorem mod_ii (i j : Int) (h : j ≠ 0) : modF (.int i) (.int j) = some (.int (i.fmod j)) := by
  show (if decide (j ≠ 0) = true then some (D.int (i.fmod j)) else none) = _
  simp [h]
@[simp] theorem mod_a (i : Int) : modF (.int i) (.int 2147483647) = some (.int (i.fmod 2147483647)) := mod_ii _ _ (by decide)
@[simp] theorem mod_b (i : Int) : modF (.int i) (.int 2147483629) = some (.int (i.fmod 2147483629)) := mod_ii _ _ (by decide)
@[simp] theorem pow_a : powF (.int 10) (.int 18) = some (.int 1000000000000000000) := by decide
/-- what a draw keeps -/
def RowIn (r : RowS) : Prop := 0 ≤ r.at_
theorem fdiv_ok (i m : Int) (h : 0 < m) (h' : m ≤ 1000000) : fdivF (.int i) (.int m) = some (.int (i.fdiv m)) := by
  have hl : m.natAbs.log2 < 9000 := by
    have h1 : m.natAbs ≤ 1000000 := by omega
    have h2 : m.natAbs < 2 ^ 20 := Nat.lt_of_le_of_lt h1 (by decide)
    have h3 : m.natAbs ≠ 0 := by omega
    have := (Nat.log2_lt h3).mpr h2
    omega
  have hc : fdivC i m = true := by
    unfold fdivC
    simp only [Bool.and_eq_true, decide_eq_true_eq]
    exact ⟨by omega, hl⟩
  show (if fdivC i m = true then some (D.int (i.fdiv m)) else none) = _
  rw [if_pos hc]
theorem e_pick {row : RowS} (h : RowIn row) {m : Int} (h0 : 0 < m) (h1 : m ≤ 1000000) : ∃ x row', F__law_pick [.row, .int m] row = .ret (.int x) row' ∧ 0 ≤ x ∧ x < m ∧ RowIn row' := by
  obtain ⟨xs, at_, big, seed⟩ := row
  have h : 0 ≤ at_ := h
  have hm := fun i => mod_ii i m (by omega)
  have hd := fun i => fdiv_ok i m h0 h1
  have fm : ∀ i : Int, 0 ≤ i.fmod m ∧ i.fmod m < m := fun i => ⟨Int.fmod_nonneg_of_pos _ h0, Int.fmod_lt_of_pos _ h0⟩
  by_cases c1 : big = 0
  · subst c1
    by_cases c2 : at_ < (xs.length : Int)
    · obtain ⟨n, rfl⟩ : ∃ n : Nat, at_ = n := ⟨at_.toNat, by omega⟩
      have hn : n < xs.length := by omega
      have hix : atI (xs.map D.int) (n : Int) = some (.int xs[n]) := at_nat (by simp [List.getElem?_eq_getElem hn])
      by_cases c3 : 1000000000000000000 ≤ xs[n]
      · have c4 : (0 : Int) < xs[n] := by omega
        refine ⟨xs[n].fmod m, ⟨xs, n + 1, xs[n].fdiv m, seed⟩, ?_, (fm _).1, (fm _).2, by show (0 : Int) ≤ n + 1; omega⟩
        simp [F__law_pick, fnM_app, m__law_pick, RowS.put, c2, hix, c3, c4, hm, hd]
      · refine ⟨(((seed * 48271 + xs[n] * 69621 + 11).fmod 2147483647 * 16807).fmod 2147483629).fmod m, ⟨xs, n + 1, 0, (seed * 48271 + xs[n] * 69621 + 11).fmod 2147483647⟩, ?_, (fm _).1, (fm _).2, by show (0 : Int) ≤ n + 1; omega⟩
        simp [F__law_pick, fnM_app, m__law_pick, RowS.put, c2, hix, c3, hm, hd]
    · refine ⟨(((seed * 48271 + 7).fmod 2147483647 * 16807).fmod 2147483629).fmod m, ⟨xs, at_, 0, (seed * 48271 + 7).fmod 2147483647⟩, ?_, (fm _).1, (fm _).2, h⟩
      simp [F__law_pick, fnM_app, m__law_pick, RowS.put, c2, hm, hd]
  · by_cases c4 : 0 < big
    · refine ⟨big.fmod m, ⟨xs, at_, big.fdiv m, seed⟩, ?_, (fm _).1, (fm _).2, h⟩
      simp [F__law_pick, fnM_app, m__law_pick, RowS.put, c1, c4, hm, hd]
    · refine ⟨((seed * 16807).fmod 2147483629).fmod m, ⟨xs, at_, big, seed⟩, ?_, (fm _).1, (fm _).2, h⟩
      simp [F__law_pick, fnM_app, m__law_pick, RowS.put, c1, c4, hm, hd]
end Cut


set_option Elab.async false
set_option linter.all false
set_option maxRecDepth 100000
set_option maxHeartbeats 1000000
/-! Plain, part 5: rules that are drawn. -/
namespace Cut
open PySem Mi
open L2 (atI ixN atI_nat)
def rngI (lo hi : Int) : List Int := (List.range (hi - lo).toNat).map fun (i : Nat) => lo + i
theorem rngL_eq (lo hi : Int) : rngL lo hi = (rngI lo hi).map D.int := by
  unfold rngL rngI
  rw [List.map_map]
  rfl
theorem rngI_mem {lo hi x : Int} (h : x ∈ rngI lo hi) : lo ≤ x ∧ x < hi := by
  unfold rngI at h
  simp only [List.mem_map, List.mem_range] at h
  obtain ⟨i, h1, rfl⟩ := h
  omega
theorem rngI_length (lo hi : Int) : (rngI lo hi).length = (hi - lo).toNat := by simp [rngI]
/-! all words -/
def ext1 (signs : Int) (w : List Int) : List (List Int) := (rngI 0 signs).map fun s => w ++ [s]
def wordsP (signs : Int) : Nat → List (List Int)
  | 0 => [[]]
  | k + 1 => (wordsP signs k).flatMap (ext1 signs)
theorem add_w (a : List Int) (s : Int) (h : a.length + 1 ≤ 1000000) : addF (iD a) (.tup [.int s]) = some (iD (a ++ [s])) := by
  unfold iD addF
  simp [h]
theorem add_ww (a b : List (List Int)) (h : a.length + b.length ≤ 1000000) : addF (.lst (wD a)) (.lst (wD b)) = some (.lst (wD (a ++ b))) := by
  unfold addF wD
  simp [h]
theorem words_inner {signs : Int} (h0 : 0 ≤ signs) (h1 : signs ≤ 1000) (s1 s2 s3 : Mi.Slot) (row : RowS) : ∀ (l acc : List (List Int)) (s5 : Mi.Slot), (∀ w ∈ l, w.length ≤ 1000) → acc.length + l.length * 1000 ≤ 1000000 →
    ∃ s5', forM' (gN 5) b__law_words_1 (wD l) ⟨[.val (.int signs), s1, s2, s3, .val (.lst (wD acc)), s5, .no], row⟩ = .ok .nx ⟨[.val (.int signs), s1, s2, s3, .val (.lst (wD (acc ++ l.flatMap (ext1 signs)))), s5', .no], row⟩
  | [], acc, s5, _, _ => ⟨s5, by simp [wD]⟩
  | w :: l, acc, s5, hl, hz => by
    have hlen : (ext1 signs w).length ≤ 1000 := by
      unfold ext1
      rw [List.length_map, rngI_length]
      omega
    simp only [List.length_cons] at hz
    obtain ⟨a, ih⟩ := words_inner h0 h1 s1 s2 s3 row l (acc ++ ext1 signs w) (.val (iD w)) (fun x hx => hl x (List.mem_cons_of_mem _ hx)) (by rw [List.length_append]; omega)
    refine ⟨a, ?_⟩
    have hw := hl w List.mem_cons_self
    have key := lc_map (i := 6) (el := c__law_words_1) (sl := [.val (.int signs), s1, s2, s3, .val (.lst (wD acc)), .val (iD w), .no]) (fun d => match d with
      | .int s => iD (w ++ [s])
      | d => d) (by simp) rfl ((rngI 0 signs).map D.int) row (by rw [List.length_map, rngI_length]; omega) (fun d hd => by
        obtain ⟨x, hx, rfl⟩ := List.mem_map.mp hd
        simp [c__law_words_1, add_w w x (by omega)])
    have e1 : ((rngI 0 signs).map D.int).map (fun d => match d with
      | .int s => iD (w ++ [s])
      | d => d) = wD (ext1 signs w) := by
      unfold ext1 wD
      rw [List.map_map, List.map_map]
      rfl
    rw [e1] at key
    have e2 : wD (w :: l) = iD w :: wD l := rfl
    have hr : range1D [.int signs] = some ((rngI 0 signs).map D.int) := by rw [range1_ok (okI_small (by omega) (by omega)), rngL_eq]
    rw [e2, for_nx (e1 := ⟨[.val (.int signs), s1, s2, s3, .val (.lst (wD acc)), .val (iD w), .no], row⟩) (e2 := ⟨[.val (.int signs), s1, s2, s3, .val (.lst (wD (acc ++ ext1 signs w))), .val (iD w), .no], row⟩) (by simp) (by simp [b__law_words_1, hr, key, add_ww acc (ext1 signs w) (by omega)]), ih]
    simp [List.append_assoc]
theorem words_len (signs : Int) : ∀ (k : Nat) (w : List Int), w ∈ wordsP signs k → w.length = k ∧ ∀ x ∈ w, 0 ≤ x ∧ x < signs
  | 0, w, h => by
    simp [wordsP] at h
    subst h
    exact ⟨rfl, by simp⟩
  | k + 1, w, h => by
    simp only [wordsP, List.mem_flatMap, ext1, List.mem_map] at h
    obtain ⟨u, hu, s, hs, rfl⟩ := h
    obtain ⟨h1, h2⟩ := words_len signs k u hu
    have h3 := rngI_mem hs
    refine ⟨by simp [h1], fun x hx => ?_⟩
    rcases List.mem_append.mp hx with hx | hx
    · exact h2 x hx
    · simp at hx
      subst hx
      exact h3
theorem words_count (signs : Int) : ∀ k : Nat, (wordsP signs k).length = signs.toNat ^ k
  | 0 => rfl
  | k + 1 => by
    unfold wordsP
    have hc : ∀ l : List (List Int), (l.flatMap (ext1 signs)).length = l.length * signs.toNat := by
      intro l
      induction l with
      | nil => simp
      | cons a l ih =>
        rw [List.flatMap_cons, List.length_append, ih, List.length_cons]
        unfold ext1
        rw [List.length_map, rngI_length, Int.sub_zero, Nat.succ_mul, Nat.add_comm]
    rw [hc, words_count signs k, Nat.pow_succ]
theorem words_outer {signs : Int} (h0 : 0 ≤ signs) (h1 : signs ≤ 3) (s1 : Mi.Slot) (row : RowS) : ∀ (l : List D) (k : Nat) (s3 s4 s5 : Mi.Slot), k + l.length ≤ 3 → ∃ s3' s4' s5', forM' (gN 3) b__law_words_2 l ⟨[.val (.int signs), s1, .val (.lst (wD (wordsP signs k))), s3, s4, s5, .no], row⟩ =
    .ok .nx ⟨[.val (.int signs), s1, .val (.lst (wD (wordsP signs (k + l.length)))), s3', s4', s5', .no], row⟩
  | [], k, s3, s4, s5, _ => ⟨s3, s4, s5, by simp⟩
  | d :: l, k, s3, s4, s5, hk => by
    simp only [List.length_cons] at hk
    have hn : (wordsP signs k).length ≤ 27 := by
      rw [words_count]
      have h3 : signs.toNat ≤ 3 := by omega
      have hk3 : k ≤ 3 := by omega
      exact Nat.le_trans (Nat.pow_le_pow_left h3 k) (Nat.le_trans (Nat.pow_le_pow_right (by decide) hk3) (by decide))
    obtain ⟨a, ha⟩ := words_inner h0 (Int.le_trans h1 (by decide)) s1 (.val (.lst (wD (wordsP signs k)))) (.val d) row (wordsP signs k) [] s5 (fun w hw => by
      have := (words_len signs k w hw).1
      omega) (by simp; omega)
    obtain ⟨b, c, e, ih⟩ := words_outer h0 h1 s1 row l (k + 1) (.val d) (.val (.lst (wD (wordsP signs (k + 1))))) a (by omega)
    refine ⟨b, c, e, ?_⟩
    have e0 : wD [] = ([] : List D) := rfl
    rw [e0, List.nil_append] at ha
    have ha' : forM' (gN 5) b__law_words_1 (wD (wordsP signs k)) ⟨[.val (.int signs), s1, .val (.lst (wD (wordsP signs k))), .val d, .val (.lst []), s5, .no], row⟩ = .ok .nx ⟨[.val (.int signs), s1, .val (.lst (wD (wordsP signs k))), .val d, .val (.lst (wD (wordsP signs (k + 1)))), a, .no], row⟩ := ha
    rw [for_nx (e1 := ⟨[.val (.int signs), s1, .val (.lst (wD (wordsP signs k))), .val d, s4, s5, .no], row⟩) (e2 := ⟨[.val (.int signs), s1, .val (.lst (wD (wordsP signs (k + 1)))), .val d, .val (.lst (wD (wordsP signs (k + 1)))), a, .no], row⟩) (by simp) (by simp [b__law_words_2, ha']), ih]
    have : k + 1 + l.length = k + (l.length + 1) := by omega
    rw [this, List.length_cons]
end Cut


set_option Elab.async false
set_option linter.all false
set_option maxRecDepth 100000
set_option maxHeartbeats 1000000
/-! Plain, part 6: rules that are drawn. -/
namespace Cut
open PySem Mi
open L2 (atI ixN atI_nat)
theorem e_words {signs : Int} (h0 : 0 ≤ signs) (h1 : signs ≤ 3) {window : Nat} (hw : window ≤ 3) (row : RowS) : F__law_words [.int signs, .int window] row = .ret (.lst (wD (wordsP signs window))) row := by
  have hl : (rngL 0 (window : Int)).length = window := by simp [rngL]
  obtain ⟨a, b, c, h⟩ := words_outer h0 h1 (.val (.int window)) row (rngL 0 window) 0 .no .no .no (by rw [hl]; omega)
  rw [hl, Nat.zero_add] at h
  have hr : range1D [.int (window : Int)] = some (rngL 0 window) := range1_ok (okI_small (by omega) (by omega))
  have e0 : [D.tup []] = wD (wordsP signs 0) := rfl
  have hz : (wD (wordsP signs 0)).length ≤ 1000000 := by simp [wD, wordsP]
  simp [F__law_words, fnM_app, m__law_words, hr, e0, h, hz]
/-! drawn rules -/
def Before (a b : List Int) : Prop := lexLe b a = false
instance (a b : List Int) : Decidable (Before a b) := inferInstanceAs (Decidable (_ = _))
theorem words_asc : ∀ signs ∈ [(2 : Int), 3], ∀ k ∈ [1, 2, 3], (wordsP signs k).Pairwise Before := by decide
theorem asc_of : ∀ {l : List (List Int)}, l.Pairwise Before → Asc l
  | [], _ => trivial
  | [_], _ => trivial
  | a :: b :: l, h => ⟨(List.pairwise_cons.mp h).1 b List.mem_cons_self, asc_of (List.pairwise_cons.mp h).2⟩
theorem mul_i (i j : Int) (h : -1000000 ≤ j) (h' : j ≤ 1000000) : mulF (.int i) (.int j) = some (.int (i * j)) := mul_small i j ⟨by omega, by omega⟩
theorem All2.id_eq : ∀ {l m : List D}, All2 (fun a b => b = a) l m → m = l
  | _, _, .nil => rfl
  | _, _, .cons h r => by rw [h, r.id_eq]
theorem sub_wD : ∀ {z : List D} {l : List (List Int)}, List.Sublist z (wD l) → ∃ m, z = wD m ∧ List.Sublist m l
  | z, [], h => by
    have : z = [] := by simpa [wD] using h
    exact ⟨[], by rw [this]; rfl, .slnil⟩
  | z, w :: l, h => by
    cases h with
    | cons _ h =>
      obtain ⟨m, rfl, hm⟩ := sub_wD h
      exact ⟨m, rfl, .cons _ hm⟩
    | cons_cons _ h =>
      obtain ⟨m, rfl, hm⟩ := sub_wD h
      exact ⟨w :: m, rfl, List.Sublist.cons_cons _ hm⟩
end Cut


set_option Elab.async false
set_option linter.all false
set_option maxRecDepth 100000
set_option maxHeartbeats 1000000
/-! Plain, part 7: drawn texts, the law's own cuts, pieces. -/
namespace Cut
open PySem Mi
open L2 (atI ixN atI_nat)
theorem All2.ints {Q : Int → Prop} {ds : List D} : ∀ {ys : List D}, All2 (fun _ y => ∃ x, y = .int x ∧ Q x) ds ys → ∃ l : List Int, ys = l.map D.int ∧ l.length = ds.length ∧ ∀ x ∈ l, Q x
  | _, .nil => ⟨[], rfl, rfl, by simp⟩
  | _, .cons ⟨x, hx, hq⟩ r => by
    obtain ⟨l, h1, h2, h3⟩ := r.ints
    refine ⟨x :: l, by rw [hx, h1]; rfl, by simp [h2], fun y hy => ?_⟩
    rcases List.mem_cons.mp hy with rfl | hy
    · exact hq
    · exact h3 y hy
/-! what is no text -/
end Cut


set_option Elab.async false
set_option linter.all false
set_option maxRecDepth 100000
set_option maxHeartbeats 1000000
/-! Plain, part 8: the law's own cuts are the program's. -/
namespace Cut
open PySem Mi
open L2 (atI ixN atI_nat)
theorem lastN_snoc (w : Nat) (pre : List Int) (s : Int) (hw : 1 ≤ w) : lastN w (lastN w pre ++ [s]) = lastN w (pre ++ [s]) := by
  unfold lastN
  rw [List.length_append, List.length_drop, List.length_append, List.length_singleton]
  by_cases h : pre.length ≤ w
  · have e : pre.length - w = 0 := by omega
    rw [e, List.drop_zero, Nat.sub_zero]
  · have e1 : pre.length - (pre.length - w) + 1 - w = 1 := by omega
    rw [e1, List.drop_append_of_le_length (by simp; omega), List.drop_append_of_le_length (by omega), List.drop_drop]
    congr 2
    omega
/-- the stand behind a text's begin, by where the piece began -/
structure At (r : PR) (st : Stand) (pre : List Int) (b : Int) : Prop where
  last : st.1 = lastN r.wide pre
  le : b ≤ pre.length
  len : st.2 = match r.high with
    | some _ => (pre.length : Int) - b
    | none => min ((pre.length : Int) - b) r.low
theorem At.cut {r : PR} (ok : r.Ok) {st : Stand} {pre : List Int} {b s : Int} (a : At r st pre b) (h : does r st s = true) : At r (stepP r st s) (pre ++ [s]) ((pre.length + 1 : Nat) : Int) := by
  refine ⟨?_, by simp, ?_⟩
  · show lastN r.wide (st.1 ++ [s]) = _
    rw [a.last, lastN_snoc _ _ _ ok.w1]
  · show (if does r st s = true then (0 : Int) else _) = _
    rw [if_pos h]
    have h1 := ok.l1
    cases r.high with
    | none => simp; omega
    | some h => simp
theorem At.on {r : PR} (ok : r.Ok) {st : Stand} {pre : List Int} {b s : Int} (a : At r st pre b) (h : does r st s = false) : At r (stepP r st s) (pre ++ [s]) b := by
  refine ⟨?_, ?_, ?_⟩
  · show lastN r.wide (st.1 ++ [s]) = _
    rw [a.last, lastN_snoc _ _ _ ok.w1]
  · have := a.le
    simp
    omega
  · show (if does r st s = true then (0 : Int) else match r.high with
      | some _ => st.2 + 1
      | none => min (st.2 + 1) r.low) = _
    rw [if_neg (by rw [h]; exact Bool.false_ne_true)]
    have hl := a.len
    cases hh : r.high with
    | none =>
      rw [hh] at hl
      simp only at hl ⊢
      rw [hl]
      simp
      omega
    | some x =>
      rw [hh] at hl
      simp only at hl ⊢
      rw [hl]
      simp
      omega
theorem At.begin (r : PR) (ok : r.Ok) : At r begin0 [] 0 := by
  refine ⟨by simp [begin0, lastN], by simp, ?_⟩
  have := ok.l1
  cases r.high with
  | none => simp [begin0]; omega
  | some h => simp [begin0]
end Cut


set_option Elab.async false
set_option linter.all false
set_option maxRecDepth 100000
set_option maxHeartbeats 1000000
/-! Plain, part 10: try. -/
namespace Cut
open PySem Mi
open L2 (atI ixN atI_nat)
def tcR (cs : List Str) (hs : List (Str × Nat × M Fl)) (r : Res Fl) : Res Fl := match r with
  | .exc x e' => tryH cs x e' hs
  | r => r
@[simp] theorem tcR_ok (cs : List Str) (hs : List (Str × Nat × M Fl)) (fl : Fl) (e : Mi.Env) : tcR cs hs (.ok fl e) = .ok fl e := rfl
@[simp] theorem tcR_exc (cs : List Str) (hs : List (Str × Nat × M Fl)) (x : Exn) (e : Mi.Env) : tcR cs hs (.exc x e) = tryH cs x e hs := rfl
@[simp ↓] theorem tryM_app (cs : List Str) (b : M Fl) (hs : List (Str × Nat × M Fl)) (e : Mi.Env) : tryM cs b hs e = tcR cs hs (b e) := by
  unfold tryM tcR
  cases b e <;> rfl
end Cut


set_option Elab.async false
set_option linter.all false
set_option maxRecDepth 100000
set_option maxHeartbeats 1000000
/-! Plain, part 11: things picked out of lists; more of cuts; stands. -/
namespace Cut
open PySem Mi
open L2 (atI ixN atI_nat)
@[simp] theorem len_lD (l : List Int) : lenF (lD l) = some (.int l.length) := by simp [lD]
@[simp] theorem itemsD_lD (l : List Int) : itemsD (lD l) = some (l.map D.int) := rfl
@[simp] theorem items_lD (l : List Int) : D.items (lD l) = some (l.map D.int) := rfl
@[simp] theorem ix_lD (l : List Int) (i : Int) : ixF (lD l) (.int i) = atI (l.map D.int) i := rfl
theorem any_int (l : List Int) (x : Int) : ((l.map D.int).any fun z => z.eqv (.int x)) = decide (x ∈ l) := by
  induction l with
  | nil => rfl
  | cons y l ih =>
    simp only [List.map_cons, List.any_cons, ih]
    have e : (D.int y).eqv (.int x) = decide (y = x) := rfl
    rw [e]
    by_cases h : y = x <;> by_cases h' : x ∈ l <;> simp [h, h', eq_comm (a := x)]
@[simp] theorem in_lD (x : Int) (l : List Int) : inF false (.int x) (lD l) = some (.bl (decide (x ∈ l))) := by
  have h1 : (D.int x).plain 20 = true := rfl
  unfold inF lD
  simp only [h1, plains_ints, Bool.and_self, if_true, Bool.false_eq_true, if_false, any_int]
@[simp] theorem notin_lD (x : Int) (l : List Int) : inF true (.int x) (lD l) = some (.bl (!decide (x ∈ l))) := by
  have h1 : (D.int x).plain 20 = true := rfl
  unfold inF lD
  simp only [h1, plains_ints, Bool.and_self, if_true, any_int]
/-! cuts, further on -/
theorem endP_append (r : PR) : ∀ (a b : List Int) (st : Stand), endP r st (a ++ b) = endP r (endP r st a) b
  | [], _, _ => rfl
  | s :: a, b, st => by
    rw [List.cons_append, endP, endP, endP_append r a b]
/-! stands -/
theorem eq_stD (a b : Stand) : eqF (stD a) (stD b) = some (.bl (decide (a = b))) := by
  have h1 : (stD a).plain 60 = true := by
    show (D.plain 59 (iD a.1) && (D.plain 59 (.int a.2) && true)) = true
    rw [plain_iD]
    rfl
  have h2 : (stD b).plain 60 = true := by
    show (D.plain 59 (iD b.1) && (D.plain 59 (.int b.2) && true)) = true
    rw [plain_iD]
    rfl
  have h3 : (stD a).eqv (stD b) = decide (a = b) := by
    show ((iD a.1).eqv (iD b.1) && (decide (a.2 = b.2) && true)) = _
    rw [eqv_iD, Bool.and_true, ← Bool.decide_and]
    apply decide_eq_decide.mpr
    exact ⟨fun h => Prod.ext h.1 h.2, fun h => by rw [h]; exact ⟨rfl, rfl⟩⟩
  unfold eqF
  rw [h1, h2, h3]
  rfl
end Cut


set_option Elab.async false
set_option linter.all false
set_option maxRecDepth 100000
set_option maxHeartbeats 1000000
/-! Plain, part 12: apart, together, the law's stands; a sign changed. -/
namespace Cut
open PySem Mi
open L2 (atI ixN atI_nat)
@[simp] theorem ne_ll (a b : List Int) : neF (.lst (a.map D.int)) (.lst (b.map D.int)) = some (.bl (!decide (a = b))) := ne_lD a b
/-! the law's own stands -/
/-! a sign changed -/
theorem changed {r : PR} (ok : r.Ok) {one : List Int} (h : signsOk r one = true) {p : Int} (p0 : 0 ≤ p) (p1 : p < one.length) : ∃ (x : Int) (other : List Int),
    atI (one.map D.int) p = some (.int x) ∧ modF (.int (x + 1)) (.int r.many) = some (.int ((x + 1).fmod r.many)) ∧ signsOk r other = true ∧ other.length = one.length ∧
    other = cutI one none (some p) ++ [(x + 1).fmod r.many] ++ cutI one (some (p + 1)) none := by
  obtain ⟨k, rfl⟩ : ∃ k : Nat, p = k := ⟨p.toNat, by omega⟩
  have hk : k < one.length := by omega
  have m1 := ok.m1
  refine ⟨one[k], _, ?_, mod_ii _ _ (by omega), ?_, ?_, rfl⟩
  · refine at_nat ?_
    rw [List.getElem?_map, List.getElem?_eq_getElem hk]
    rfl
  · have ea : ((k : Int) + 1) = ((k + 1 : Nat) : Int) := by omega
    unfold signsOk cutI at *
    rw [List.all_eq_true] at *
    intro y hy
    rw [List.mem_append, List.mem_append, List.mem_singleton] at hy
    rcases hy with (hy | hy) | hy
    · exact h y (List.mem_of_mem_drop (List.mem_of_mem_take hy))
    · subst hy
      have b1 := Int.fmod_nonneg_of_pos (one[k] + 1) (show 0 < r.many by omega)
      have b2 := Int.fmod_lt_of_pos (one[k] + 1) (show 0 < r.many by omega)
      simp
      omega
    · exact h y (List.mem_of_mem_drop (List.mem_of_mem_take hy))
  · have ea : ((k : Int) + 1) = ((k + 1 : Nat) : Int) := by omega
    unfold cutI
    rw [ea, HT.sIx_nat, HT.sIx_nat]
    simp [HT.sIx]
    omega
end Cut


set_option Elab.async false
set_option linter.all false
set_option maxRecDepth 100000
set_option maxHeartbeats 1000000
/-! Plain, part 13: what a part ends with; loops with an invariant. -/
namespace Cut
open PySem Mi
open L2 (atI ixN atI_nat)
/-- it ends, so -/
def Sat {α : Type} (r : Res α) (P : α → Mi.Env → Prop) : Prop := match r with
  | .ok a e => P a e
  | _ => False
@[simp] theorem sat_ok {α : Type} (a : α) (e : Mi.Env) (P : α → Mi.Env → Prop) : Sat (.ok a e) P = P a e := rfl
theorem Sat.mono {α : Type} {r : Res α} {P Q : α → Mi.Env → Prop} (h : Sat r P) (k : ∀ a e, P a e → Q a e) : Sat r Q := by
  cases r with
  | ok a e => exact k a e h
  | exc x e => exact h
  | err => exact h
theorem Sat.out {α : Type} {r : Res α} {P : α → Mi.Env → Prop} (h : Sat r P) : ∃ a e, r = .ok a e ∧ P a e := by
  cases r with
  | ok a e => exact ⟨a, e, rfl, h⟩
  | exc x e => exact h.elim
  | err => exact h.elim
/-- a loop, and what comes behind it (simp over the loop's equation is slow in the kernel) -/
theorem for_head {mi : M (List D)} {g : D → M Unit} {b m2 : M Fl} {e e1 : Mi.Env} {ds : List D} (h1 : mi e = .ok ds e) (h2 : forM' g b ds e = .ok .nx e1) : seqM (forL mi g b) m2 e = m2 e1 := by
  unfold seqM forL bindM
  rw [h1]
  simp only
  rw [h2]
@[simp] theorem tup_mid (a b : List Int) (s : Int) : D.tup (a.map D.int ++ D.int s :: b.map D.int) = iD (a ++ s :: b) := by simp [iD]
end Cut


set_option Elab.async false
set_option linter.all false
set_option maxRecDepth 100000
set_option maxHeartbeats 1000000
/-! Plain, part 14: dicts that are told by lists of pairs. -/
namespace Cut
open PySem Mi
open L2 (atI ixN atI_nat)
/-- things told as keys -/
structure Enc {α : Type} (enc : α → D) (κ : α → NestedKey) : Prop where
  hk : ∀ a, (enc a).hk = some (κ a)
  inj : ∀ a b, κ a = κ b → a = b
  same : ∀ a b, sameKey (enc a) (enc b) = true
section
variable {α β : Type} [DecidableEq α]
def aget (l : List (α × β)) (a : α) : Option β := (l.find? fun p => decide (p.1 = a)).map (·.2)
def aput (l : List (α × β)) (a : α) (b : β) : List (α × β) := if (l.any fun p => decide (p.1 = a)) = true then l.map (fun p => if p.1 = a then (p.1, b) else p) else l ++ [(a, b)]
theorem aget_nil (a : α) : aget ([] : List (α × β)) a = none := rfl
theorem aget_cons (p : α × β) (l : List (α × β)) (a : α) : aget (p :: l) a = if p.1 = a then some p.2 else aget l a := by
  unfold aget
  rw [List.find?_cons]
  by_cases h : p.1 = a <;> simp [h]
theorem aget_some_iff {l : List (α × β)} {a : α} : (aget l a).isSome = true ↔ a ∈ l.map (·.1) := by
  induction l with
  | nil => simp [aget_nil]
  | cons p l ih =>
    rw [aget_cons, List.map_cons, List.mem_cons]
    by_cases h : p.1 = a
    · simp [h]
    · rw [if_neg h, ih]
      exact ⟨.inr, fun q => q.resolve_left fun z => h z.symm⟩
theorem aget_none_iff {l : List (α × β)} {a : α} : aget l a = none ↔ a ∉ l.map (·.1) := by
  rw [← aget_some_iff]
  cases aget l a <;> simp
theorem aget_append (l m : List (α × β)) (a : α) : aget (l ++ m) a = match aget l a with
    | some b => some b
    | none => aget m a := by
  induction l with
  | nil => rfl
  | cons p l ih =>
    rw [List.cons_append, aget_cons, aget_cons]
    by_cases h : p.1 = a
    · rw [if_pos h, if_pos h]
    · rw [if_neg h, if_neg h, ih]
variable {enc : α → D} {κ : α → NestedKey} {val : β → D}
def dictD (enc : α → D) (val : β → D) (l : List (α × β)) : List (D × D) := l.map fun p => (enc p.1, val p.2)
@[simp] theorem dictD_length (l : List (α × β)) : (dictD enc val l).length = l.length := by simp [dictD]
omit [DecidableEq α] in
theorem Enc.iff (E : Enc enc κ) (a b : α) : ((enc a).hk = (enc b).hk) ↔ a = b := by
  rw [E.hk, E.hk]
  exact ⟨fun h => E.inj _ _ (Option.some.inj h), fun h => by rw [h]⟩
omit [DecidableEq α] in
theorem Enc.kind (E : Enc enc κ) (l : List (α × β)) (a : α) : kindOk (dictD enc val l) (enc a) = true := by
  cases l with
  | nil => exact E.same a a
  | cons p l => exact E.same p.1 a
omit [DecidableEq α] in
theorem Enc.ok (E : Enc enc κ) (l : List (α × β)) (a : α) : keyOk (dictD enc val l) (enc a) = true := by
  unfold keyOk
  rw [E.kind l a, E.hk]
  rfl
theorem Enc.get (E : Enc enc κ) (l : List (α × β)) (a : α) : dget (dictD enc val l) (enc a) = (aget l a).map val := by
  induction l with
  | nil => rfl
  | cons p l ih =>
    show dget ((enc p.1, val p.2) :: dictD enc val l) (enc a) = _
    rw [dget_cons, aget_cons, ih]
    by_cases h : p.1 = a
    · rw [if_pos h, if_pos ((E.iff _ _).mpr h)]
      rfl
    · rw [if_neg h, if_neg fun z => h ((E.iff _ _).mp z)]
theorem Enc.put (E : Enc enc κ) (l : List (α × β)) (a : α) (b : β) : dput (dictD enc val l) (enc a) (val b) = dictD enc val (aput l a b) := by
  have e1 : ((dictD enc val l).any fun p => decide (p.1.hk = (enc a).hk)) = l.any fun p => decide (p.1 = a) := by
    unfold dictD
    rw [List.any_map]
    congr 1
    funext p
    exact decide_eq_decide.mpr (E.iff _ _)
  unfold dput aput
  rw [e1]
  by_cases h : (l.any fun p => decide (p.1 = a)) = true
  · rw [if_pos h, if_pos h]
    unfold dictD
    rw [List.map_map, List.map_map]
    apply List.map_congr_left
    intro p _
    simp only [Function.comp_apply]
    by_cases c : p.1 = a
    · rw [if_pos ((E.iff _ _).mpr c), if_pos c]
    · rw [if_neg fun z => c ((E.iff _ _).mp z), if_neg c]
  · rw [if_neg h, if_neg h]
    unfold dictD
    rw [List.map_append]
    rfl
theorem Enc.in (E : Enc enc κ) (l : List (α × β)) (a : α) : inF false (enc a) (.dct (dictD enc val l)) = some (.bl (decide (a ∈ l.map (·.1)))) := by
  have e := E.get (val := val) l a
  unfold inF
  simp only [E.kind l a, E.hk, Option.isSome_some, Bool.and_self, if_true, Bool.false_eq_true, if_false, e, Option.isSome_map]
  congr 2
  rw [Bool.eq_iff_iff, aget_some_iff, decide_eq_true_eq]
end
/-! the mirror's words -/
section
open PySem Mi
def odS (s : Option Mi.Slot) (e : Mi.Env) : Res (List (D × D)) := match s with
  | some (.own (.dct l)) => .ok l e
  | _ => .err
@[simp] theorem odS_own (l : List (D × D)) (e : Mi.Env) : odS (some (.own (.dct l))) e = .ok l e := rfl
@[simp ↓] theorem ownD_app (i : Nat) (e : Mi.Env) : ownD i e = odS e.sl[i]? e := by
  unfold ownD odS
  cases e.sl[i]? with
  | none => rfl
  | some s => cases s <;> first | rfl | (rename_i o; cases o <;> rfl)
@[simp ↓] theorem putM_app (i : Nat) (mk mv : M D) (e : Mi.Env) : putM i mk mv e = (mv e).bind fun dv => bindM (ownD i) fun _ => bindM mk fun dk => bindM (ownD i) fun kvs => bindM (roomD kvs dk) fun _ => bindM (setM i (.own (.dct (dput kvs dk dv)))) fun _ => pureM .nx := rfl
def dvR (dk : D) (r : Res D) : Res OD := match r with
  | .ok dv e => if keyOk [] dk = true then .ok (.dct [(dk, dv)]) e else .err
  | _ => .err
def dpR (r : Res D) (mv : M D) (_ : Tag mv := .mk) : Res OD := match r with
  | .ok dk e => dvR dk (mv e)
  | _ => .err
@[simp] theorem dpR_ok (dk : D) (e : Mi.Env) (mv : M D) (t : Tag mv) : dpR (.ok dk e) mv t = dvR dk (mv e) := rfl
@[simp ↓] theorem disp1M_app (mk mv : M D) (e : Mi.Env) : disp1M mk mv e = dpR (mk e) mv := by
  unfold disp1M dpR dvR
  cases mk e with
  | ok dk e1 =>
    try simp only
    all_goals (cases mv e1 <;> rfl)
  | exc x e1 => rfl
  | err => rfl
@[simp ↓] theorem getM_app (md : M Ref) (mk mx : M D) (e : Mi.Env) : getM md mk mx e = (md e).bind fun r => bindM (derefM r) fun d => match d with
  | .dct _ => bindM mk fun dk => bindM mx fun dx => bindM (derefM r) fun d => match d with
    | .dct kvs => if keyOk kvs dk = true then pureM ((dget kvs dk).getD dx) else errM
    | _ => errM
  | _ => errM := rfl
end
end Cut


set_option Elab.async false
set_option linter.all false
set_option maxRecDepth 100000
set_option maxHeartbeats 1000000
/-! Plain, part 15: stands and pairs of stands as keys; all of them. -/
namespace Cut
open PySem Mi
open L2 (atI ixN atI_nat)
def prD (p : Stand × Stand) : D := .tup [stD p.1, stD p.2]
/-! comparing pairs, lists of entries -/
theorem plain_stD (n : Nat) (st : Stand) : (stD st).plain (n + 2) = true := by
  show (D.plain (n + 1) (iD st.1) && (D.plain (n + 1) (.int st.2) && true)) = true
  rw [plain_iD]
  rfl
theorem eqv_stD (a b : Stand) : (stD a).eqv (stD b) = decide (a = b) := by
  show ((iD a.1).eqv (iD b.1) && (decide (a.2 = b.2) && true)) = _
  rw [eqv_iD, Bool.and_true, ← Bool.decide_and]
  apply decide_eq_decide.mpr
  exact ⟨fun h => Prod.ext h.1 h.2, fun h => by rw [h]; exact ⟨rfl, rfl⟩⟩
@[simp] theorem ne_stD (a b : Stand) : neF (stD a) (stD b) = some (.bl (!decide (a = b))) := by
  unfold neF
  rw [plain_stD 58, plain_stD 58, eqv_stD]
  rfl
@[simp] theorem eq_stD2 (a b : Stand) : eqF (stD a) (stD b) = some (.bl (decide (a = b))) := eq_stD a b
/-! which stands there are -/
structure StIn (r : PR) (st : Stand) : Prop where
  last : st.1.length ≤ r.wide
  sg : ∀ x ∈ st.1, 0 ≤ x ∧ x < r.many
  lo : 0 ≤ st.2
  hi : match r.high with
    | some h => st.2 < h
    | none => st.2 ≤ r.low
theorem StIn.begin {r : PR} (ok : r.Ok) : StIn r begin0 := by
  refine ⟨Nat.zero_le _, fun x hx => (by cases hx), Int.le_refl 0, ?_⟩
  have h1 := ok.l1
  cases e : r.high with
  | none => show (0 : Int) ≤ r.low; omega
  | some h =>
    have := ok.hi h e
    show (0 : Int) < h
    omega
theorem StIn.step {r : PR} (ok : r.Ok) {st : Stand} (h : StIn r st) {s : Int} (s0 : 0 ≤ s) (s1 : s < r.many) : StIn r (stepP r st s) := by
  refine ⟨step_le r st s, fun x hx => ?_, ?_, ?_⟩
  · have hm := List.mem_of_mem_drop hx
    rcases List.mem_append.mp hm with hm | hm
    · exact h.sg x hm
    · have := List.mem_singleton.mp hm
      subst this
      exact ⟨s0, s1⟩
  · have h1 := ok.l1
    have h2 := h.lo
    show (0 : Int) ≤ if does r st s = true then 0 else _
    split
    · exact Int.le_refl 0
    · cases r.high with
      | none => simp only; omega
      | some x => simp only; omega
  · have h1 := ok.l1
    have hh := h.hi
    cases e : r.high with
    | none =>
      show (if does r st s = true then (0 : Int) else match r.high with
        | some _ => st.2 + 1
        | none => min (st.2 + 1) r.low) ≤ r.low
      rw [e]
      split
      · omega
      · show min (st.2 + 1) r.low ≤ r.low
        omega
    | some x =>
      have hx := ok.hi x e
      rw [e] at hh
      simp only at hh
      show (if does r st s = true then (0 : Int) else match r.high with
        | some _ => st.2 + 1
        | none => min (st.2 + 1) r.low) < x
      rw [e]
      split
      · omega
      · rename_i hd
        show st.2 + 1 < x
        have : ¬ (st.2 + 1 = x) := fun z => hd (by
          unfold does
          rw [e, z]
          simp)
        omega
theorem nodup_le {α : Type} [DecidableEq α] : ∀ {l m : List α}, l.Nodup → (∀ x ∈ l, x ∈ m) → l.length ≤ m.length
  | [], _, _, _ => Nat.zero_le _
  | x :: l, m, h, k => by
    obtain ⟨h1, h2⟩ := List.nodup_cons.mp h
    have hx := k x List.mem_cons_self
    have ih := nodup_le (m := m.erase x) h2 fun y hy => (List.mem_erase_of_ne fun e => h1 (by rw [← e]; exact hy)).mpr (k y (List.mem_cons_of_mem _ hy))
    rw [List.length_erase_of_mem hx] at ih
    have : 0 < m.length := List.length_pos_of_mem hx
    rw [List.length_cons]
    omega
theorem mem_words {signs : Int} : ∀ {k : Nat} {w : List Int}, w.length = k → (∀ x ∈ w, 0 ≤ x ∧ x < signs) → w ∈ wordsP signs k
  | 0, w, h, _ => by
    have : w = [] := List.length_eq_zero_iff.mp h
    subst this
    simp [wordsP]
  | k + 1, w, h, q => by
    rcases List.eq_nil_or_concat w with e | ⟨u, s, e⟩
    · subst e
      simp at h
    · have e' : w = u ++ [s] := by simpa using e
      subst e'
      have hu : u.length = k := by simp at h; exact h
      have hs := q s (by simp)
      simp only [wordsP, List.mem_flatMap]
      refine ⟨u, mem_words hu fun x hx => q x (List.mem_append_left _ hx), ?_⟩
      unfold ext1
      rw [List.mem_map]
      refine ⟨s, ?_, rfl⟩
      unfold rngI
      rw [List.mem_map]
      exact ⟨s.toNat, by rw [List.mem_range]; omega, by omega⟩
def lasts : List (List Int) := wordsP 3 0 ++ (wordsP 3 1 ++ (wordsP 3 2 ++ wordsP 3 3))
def allSt : List Stand := lasts.flatMap fun l => (rngI 0 9).map fun n => (l, n)
theorem StIn.mem {r : PR} (ok : r.Ok) {st : Stand} (h : StIn r st) : st ∈ allSt := by
  obtain ⟨l, n⟩ := st
  have h1 : l.length ≤ r.wide := h.last
  have h2 := ok.w2
  have h3 : ∀ x ∈ l, 0 ≤ x ∧ x < 3 := fun x hx => by
    have := h.sg x hx
    have := ok.m2
    omega
  have hl : l ∈ lasts := by
    unfold lasts
    have : l.length = 0 ∨ l.length = 1 ∨ l.length = 2 ∨ l.length = 3 := by omega
    rcases this with e | e | e | e
    · exact List.mem_append_left _ (mem_words e h3)
    · exact List.mem_append_right _ (List.mem_append_left _ (mem_words e h3))
    · exact List.mem_append_right _ (List.mem_append_right _ (List.mem_append_left _ (mem_words e h3)))
    · exact List.mem_append_right _ (List.mem_append_right _ (List.mem_append_right _ (mem_words e h3)))
  have hn : n ∈ rngI 0 9 := by
    have a : 0 ≤ n := h.lo
    have b : n < 9 := by
      have h6 := ok.l2
      cases e : r.high with
      | none =>
        have hh := h.hi
        rw [e] at hh
        simp only at hh
        omega
      | some x =>
        have := ok.hi x e
        have hh := h.hi
        rw [e] at hh
        simp only at hh
        omega
    unfold rngI
    rw [List.mem_map]
    exact ⟨n.toNat, by rw [List.mem_range]; omega, by omega⟩
  unfold allSt
  rw [List.mem_flatMap]
  exact ⟨l, hl, List.mem_map.mpr ⟨n, hn, rfl⟩⟩
def allPr : List (Stand × Stand) := allSt.flatMap fun a => allSt.map fun b => (a, b)
theorem mem_allPr {a b : Stand} (ha : a ∈ allSt) (hb : b ∈ allSt) : (a, b) ∈ allPr := by
  unfold allPr
  rw [List.mem_flatMap]
  exact ⟨a, ha, List.mem_map.mpr ⟨b, hb, rfl⟩⟩
end Cut


set_option Elab.async false
set_option linter.all false
set_option maxRecDepth 100000
set_option maxHeartbeats 1000000
/-! Plain, part 16: loops as folds that may end early; whiles as runs. -/
namespace Cut
open PySem Mi
open L2 (atI ixN atI_nat)
section
variable {σ τ β : Type}
/-- what a part of a def ends with: it returns t, or goes on with s -/
def OutR (R : τ → D) (J : Mi.Env → Prop) (I : σ → Mi.Env → Prop) (r : Res Fl) (x : Sum τ σ) : Prop := match x with
  | .inl t => ∃ e, r = .ok (.rt (R t)) e ∧ J e
  | .inr s => ∃ e, r = .ok .nx e ∧ I s e
end
/-! the two sides of a search, side by side -/
section
variable {σ σ' τ β : Type}
end
end Cut


set_option Elab.async false
set_option linter.all false
set_option maxRecDepth 100000
set_option maxHeartbeats 1000000
/-! Plain, part 17: the search for the first signs that part two stands. -/
namespace Cut
open PySem Mi
open L2 (atI ixN atI_nat)
abbrev Pr : Type := Stand × Stand
abbrev Ent : Type := List Int × Pr
abbrev Kn : Type := List (Pr × Unit)
def nxP (r : PR) (a : Pr) (s : Int) : Pr := (stepP r a.1 s, stepP r a.2 s)
def partP (r : PR) (a : Pr) (s : Int) : Bool := does r a.1 s != does r a.2 s
def PrIn (r : PR) (a : Pr) : Prop := StIn r a.1 ∧ StIn r a.2
theorem PrIn.step {r : PR} (ok : r.Ok) {a : Pr} (h : PrIn r a) {s : Int} (s0 : 0 ≤ s) (s1 : s < r.many) : PrIn r (nxP r a s) := ⟨h.1.step ok s0 s1, h.2.step ok s0 s1⟩
theorem PrIn.mem {r : PR} (ok : r.Ok) {a : Pr} (h : PrIn r a) : a ∈ allPr := mem_allPr (h.1.mem ok) (h.2.mem ok)
def sgs (r : PR) : List Int := rngI 0 r.many
/-- what stays true of the known ones and of a layer -/
structure KOk (r : PR) (st : Kn × List Ent) : Prop where
  nd : (st.1.map (·.1)).Nodup
  mem : ∀ p ∈ st.1.map (·.1), p ∈ allPr
  ent : ∀ en ∈ st.2, PrIn r en.2 ∧ en.1.length + 1 ≤ st.1.length
  len : st.2.length ≤ st.1.length
theorem sgs_mem {r : PR} {s : Int} (h : s ∈ sgs r) : 0 ≤ s ∧ s < r.many := rngI_mem h
def start (p : Pr) : Kn × List Ent := ([(p, ())], [([], p)])
theorem KOk.start {r : PR} (ok : r.Ok) {p : Pr} (h : PrIn r p) : KOk r (start p) := by
  refine ⟨by simp [Cut.start], fun q hq => ?_, fun en hen => ?_, by simp [Cut.start]⟩
  · have : q = p := by simpa [Cut.start] using hq
    subst this
    exact h.mem ok
  · have : en = ([], p) := by simpa [Cut.start] using hen
    subst this
    exact ⟨h, by simp [Cut.start]⟩
/-! both searches find the same -/
def diagP (a : Pr) : Bool := decide (a.1 = a.2)
theorem part_diag (r : PR) {a : Pr} (h : diagP a = true) (s : Int) : partP r a s = false := by
  unfold diagP at h
  have := of_decide_eq_true h
  unfold partP
  rw [this]
  simp
theorem nx_diag (r : PR) {a : Pr} (h : diagP a = true) (s : Int) : diagP (nxP r a s) = true := by
  unfold diagP at h ⊢
  have := of_decide_eq_true h
  unfold nxP
  rw [this]
  simp
/-- an end: with signs, or without -/
def Sum.res {α β : Type} : Sum α β → Option α
  | .inl t => some t
  | .inr _ => none
/-! where nothing parts -/
end Cut


set_option Elab.async false
set_option linter.all false
set_option maxRecDepth 100000
set_option maxHeartbeats 1000000
/-! Plain, part 18: what the search finds parts, and is short. -/
namespace Cut
open PySem Mi
open L2 (atI ixN atI_nat)
def walkP (r : PR) (p : Pr) (t : List Int) : Pr := (endP r p.1 t, endP r p.2 t)
def NoPart (r : PR) : Pr → List Int → Prop
  | _, [] => True
  | p, s :: t => partP r p s = false ∧ NoPart r (nxP r p s) t
structure Found (r : PR) (p : Pr) (t : List Int) : Prop where
  ex : ∃ u s, t = u ++ [s] ∧ s ∈ sgs r ∧ (∀ x ∈ u, x ∈ sgs r) ∧ NoPart r p u ∧ partP r (walkP r p u) s = true
/-! how long that is -/
theorem lastN_app (w : Nat) (l u : List Int) : lastN w (lastN w l ++ u) = lastN w (l ++ u) := by
  unfold lastN
  rw [List.length_append, List.length_drop, List.length_append]
  by_cases h : l.length ≤ w
  · have : l.length - w = 0 := by omega
    rw [this, List.drop_zero, Nat.sub_zero]
  · by_cases c : u.length ≤ w
    · rw [List.drop_append_of_le_length (by rw [List.length_drop]; omega), List.drop_append_of_le_length (by omega), List.drop_drop]
      congr 2
      omega
    · rw [List.drop_append, List.drop_append, List.length_drop]
      have e1 : List.drop (l.length - (l.length - w) + u.length - w) (List.drop (l.length - w) l) = [] := List.drop_eq_nil_of_le (by rw [List.length_drop]; omega)
      have e2 : List.drop (l.length + u.length - w) l = [] := List.drop_eq_nil_of_le (by omega)
      rw [e1, e2]
      congr 2
      omega
theorem end_last (r : PR) : ∀ (u : List Int) (st : Stand), st.1.length ≤ r.wide → (endP r st u).1 = lastN r.wide (st.1 ++ u)
  | [], st, h => by
    unfold lastN
    rw [List.append_nil]
    have : st.1.length - r.wide = 0 := by omega
    rw [this]
    rfl
  | s :: u, st, h => by
    show (endP r (stepP r st s) u).1 = _
    rw [end_last r u (stepP r st s) (step_le r st s)]
    show lastN r.wide (lastN r.wide (st.1 ++ [s]) ++ u) = _
    rw [lastN_app]
    simp
theorem last_long (w : Nat) (l u : List Int) (h : w ≤ u.length) : lastN w (l ++ u) = lastN w u := by
  unfold lastN
  rw [List.length_append, List.drop_append]
  have e : List.drop (l.length + u.length - w) l = [] := List.drop_eq_nil_of_le (by omega)
  rw [e, List.nil_append]
  congr 1
  omega
theorem walk_cons (r : PR) (p : Pr) (s : Int) (t : List Int) : walkP r p (s :: t) = walkP r (nxP r p s) t := rfl
theorem walk_diag (r : PR) : ∀ (t : List Int) (p : Pr), diagP p = true → diagP (walkP r p t) = true
  | [], p, h => h
  | s :: t, p, h => walk_diag r t (nxP r p s) (nx_diag r h s)
theorem PrIn.walk {r : PR} (ok : r.Ok) : ∀ (t : List Int) (p : Pr), (∀ x ∈ t, x ∈ sgs r) → PrIn r p → PrIn r (walkP r p t)
  | [], _, _, h => h
  | s :: t, p, hs, h => PrIn.walk ok t (nxP r p s) (fun x hx => hs x (List.mem_cons_of_mem _ hx)) (h.step ok (sgs_mem (hs s List.mem_cons_self)).1 (sgs_mem (hs s List.mem_cons_self)).2)
theorem noPart_app (r : PR) : ∀ (u v : List Int) (p : Pr), NoPart r p (u ++ v) → NoPart r p u ∧ NoPart r (walkP r p u) v
  | [], v, p, h => ⟨trivial, h⟩
  | s :: u, v, p, h => by
    obtain ⟨h1, h2⟩ := noPart_app r u v (nxP r p s) h.2
    exact ⟨⟨h.1, h1⟩, h2⟩
theorem StIn.le8 {r : PR} (ok : r.Ok) {st : Stand} (h : StIn r st) : st.2 ≤ 8 := by
  have h6 := ok.l2
  have hh := h.hi
  cases e : r.high with
  | none =>
    rw [e] at hh
    simp only at hh
    omega
  | some x =>
    have := ok.hi x e
    rw [e] at hh
    simp only at hh
    omega
theorem short_from {r : PR} (ok : r.Ok) : ∀ (v : List Int) (p : Pr), p.1.1 = p.2.1 → PrIn r p → (∀ x ∈ v, x ∈ sgs r) → NoPart r p v → diagP (walkP r p v) = false → min p.1.2 p.2.2 + (v.length : Int) ≤ 8
  | [], p, _, h, _, _, _ => by
    have := h.1.le8 ok
    simp
    omega
  | s :: v, p, he, h, hs, hn, hd => by
    obtain ⟨a, b⟩ := p
    have hs0 := sgs_mem (hs s List.mem_cons_self)
    have hin := h.step ok hs0.1 hs0.2
    have nd : diagP (nxP r (a, b) s) = false := by
      cases z : diagP (nxP r (a, b) s) with
      | false => rfl
      | true =>
        have := walk_diag r v _ z
        rw [walk_cons] at hd
        rw [this] at hd
        cases hd
    have he' : a.1 = b.1 := he
    have hp : does r a s = does r b s := by
      have := hn.1
      unfold partP at this
      simpa using this
    have el : (stepP r a s).1 = (stepP r b s).1 := by
      show lastN r.wide (a.1 ++ [s]) = lastN r.wide (b.1 ++ [s])
      rw [he']
    have ih := short_from ok v (nxP r (a, b) s) el hin (fun x hx => hs x (List.mem_cons_of_mem _ hx)) hn.2 hd
    have ea : (stepP r a s).2 = if does r a s = true then 0 else match r.high with
      | some _ => a.2 + 1
      | none => min (a.2 + 1) r.low := rfl
    have eb : (stepP r b s).2 = if does r b s = true then 0 else match r.high with
      | some _ => b.2 + 1
      | none => min (b.2 + 1) r.low := rfl
    have ne : ¬ (stepP r a s).2 = (stepP r b s).2 := fun z => by
      unfold diagP at nd
      have : (nxP r (a, b) s).1 = (nxP r (a, b) s).2 := Prod.ext el z
      rw [decide_eq_true this] at nd
      cases nd
    have goal : min a.2 b.2 + ((s :: v).length : Int) ≤ 8 := by
      have ih' : min (stepP r a s).2 (stepP r b s).2 + (v.length : Int) ≤ 8 := ih
      rw [List.length_cons]
      cases hc : does r a s with
      | true =>
        rw [hc] at hp ea
        rw [← hp] at eb
        simp only [if_true] at ea eb
        exact absurd (ea.trans eb.symm) ne
      | false =>
        rw [hc] at hp ea
        rw [← hp] at eb
        simp only [Bool.false_eq_true, if_false] at ea eb
        have h1 := h.1.hi
        have h2 := h.2.hi
        cases e : r.high with
        | some x =>
          rw [e] at ea eb
          simp only at ea eb
          omega
        | none =>
          rw [e] at ea eb h1 h2
          simp only at ea eb h1 h2
          omega
    exact goal
theorem Found.short {r : PR} (ok : r.Ok) {p : Pr} (h : PrIn r p) {t : List Int} (f : Found r p t) : t.length ≤ 12 ∧ ∀ x ∈ t, x ∈ sgs r := by
  obtain ⟨u, s, rfl, hs, hu, hn, hp⟩ := f.ex
  have w3 := ok.w2
  have hd : diagP (walkP r p u) = false := by
    cases z : diagP (walkP r p u) with
    | false => rfl
    | true =>
      rw [part_diag r z s] at hp
      cases hp
  refine ⟨?_, fun x hx => ?_⟩
  · rw [List.length_append, List.length_singleton]
    by_cases c : u.length ≤ r.wide
    · omega
    · have hsplit : u = u.take r.wide ++ u.drop r.wide := (List.take_append_drop _ _).symm
      have hn' := hn
      rw [hsplit] at hn'
      obtain ⟨n1, n2⟩ := noPart_app r _ _ p hn'
      have ht : ∀ x ∈ u.take r.wide, x ∈ sgs r := fun x hx => hu x (List.mem_of_mem_take hx)
      have hin := PrIn.walk ok _ p ht h
      have hl : r.wide ≤ (u.take r.wide).length := by rw [List.length_take]; omega
      have el : (walkP r p (u.take r.wide)).1.1 = (walkP r p (u.take r.wide)).2.1 := by
        show (endP r p.1 _).1 = (endP r p.2 _).1
        rw [end_last r _ _ h.1.last, end_last r _ _ h.2.last, last_long _ _ _ hl, last_long _ _ _ hl]
      have hw : walkP r (walkP r p (u.take r.wide)) (u.drop r.wide) = walkP r p u := by
        conv => rhs; rw [hsplit]
        unfold walkP
        rw [endP_append, endP_append]
      have key := short_from ok (u.drop r.wide) _ el hin (fun x hx => hu x (List.mem_of_mem_drop hx)) n2 (by rw [hw]; exact hd)
      have l1 := hin.1.lo
      have l2 := hin.2.lo
      rw [List.length_drop] at key
      omega
  · rcases List.mem_append.mp hx with hx | hx
    · exact hu x hx
    · have := List.mem_singleton.mp hx
      subst this
      exact hs
end Cut


set_option Elab.async false
set_option linter.all false
set_option maxRecDepth 100000
set_option maxHeartbeats 1000000
/-! Plain, part 19: the program's search for parting signs. -/
namespace Cut
open PySem Mi
open L2 (atI ixN atI_nat)
section
variable {σ τ : Type} {R : τ → D} {J : Mi.Env → Prop} {I I' : σ → Mi.Env → Prop} {m n : M Fl} {e : Mi.Env} {x : Sum τ σ}
theorem seq_ok {m n : M Fl} {e e1 : Mi.Env} (h : m e = .ok .nx e1) : seqM m n e = n e1 := by simp [h]
theorem OutR.mono (h : OutR R J I (m e) x) (k : ∀ s e, I s e → I' s e) : OutR R J I' (m e) x := by
  cases x with
  | inl t => exact h
  | inr s =>
    obtain ⟨e1, h1, h2⟩ := h
    exact ⟨e1, h1, k _ _ h2⟩
end
@[simp] theorem ix_prD0 (p : Pr) : ixF (prD p) (.int 0) = some (stD p.1) := rfl
@[simp] theorem ix_prD1 (p : Pr) : ixF (prD p) (.int 1) = some (stD p.2) := rfl
@[simp] theorem ne_bl (a b : Bool) : neF (.bl a) (.bl b) = some (.bl (!decide (a = b))) := by cases a <;> cases b <;> rfl
@[simp] theorem eq_bl (a b : Bool) : eqF (.bl a) (.bl b) = some (.bl (decide (a = b))) := by cases a <;> cases b <;> rfl
theorem StIn.le {r : PR} (ok : r.Ok) {st : Stand} (h : StIn r st) : st.1.length ≤ 1000 := by
  have := h.last
  have := ok.w2
  omega
/-! the loop over the signs -/
/-! the loop over a layer -/
/-! the while -/
end Cut


set_option Elab.async false
set_option linter.all false
set_option maxRecDepth 100000
set_option maxHeartbeats 1000000
/-! Plain, part 20: the law's search for parting signs. -/
namespace Cut
open PySem Mi
open L2 (atI ixN atI_nat)
@[simp] theorem gTup2l (gs : List D → M Unit) (a b : D) (e : Mi.Env) : gTupM 2 gs (.lst [a, b]) e = gs [a, b] e := rfl
@[simp] theorem gTup3l (gs : List D → M Unit) (a b c : D) (e : Mi.Env) : gTupM 3 gs (.lst [a, b, c]) e = gs [a, b, c] e := rfl
/-! the loop over the signs -/
/-! the loop over a layer -/
/-! the while -/
end Cut


set_option Elab.async false
set_option linter.all false
set_option maxRecDepth 100000
set_option maxHeartbeats 1000000
/-! Plain, part 21: dicts that count. -/
namespace Cut
open PySem Mi
open L2 (atI ixN atI_nat)
section
variable {α : Type} [DecidableEq α]
/-- how many times -/
def cI : List α → α → Int
  | [], _ => 0
  | b :: M, a => (if b = a then 1 else 0) + cI M a
theorem cI_append (a : α) : ∀ M N : List α, cI (M ++ N) a = cI M a + cI N a
  | [], N => by simp [cI]
  | b :: M, N => by
    rw [List.cons_append, cI, cI, cI_append a M N]
    omega
theorem cI_nonneg (a : α) : ∀ M : List α, 0 ≤ cI M a
  | [] => Int.le_refl _
  | b :: M => by
    have := cI_nonneg a M
    rw [cI]
    split <;> omega
theorem cI_pos {a : α} : ∀ {M : List α}, 0 < cI M a ↔ a ∈ M
  | [] => by simp [cI]
  | b :: M => by
    have ih := cI_pos (a := a) (M := M)
    have := cI_nonneg a M
    rw [cI, List.mem_cons]
    by_cases h : b = a
    · rw [if_pos h]
      exact ⟨fun _ => .inl h.symm, fun _ => by omega⟩
    · rw [if_neg h]
      constructor
      · intro q
        exact .inr (ih.mp (by omega))
      · intro q
        have := ih.mpr (q.resolve_left fun z => h z.symm)
        omega
theorem cI_replicate (a b : α) : ∀ n : Nat, cI (List.replicate n b) a = if b = a then (n : Int) else 0
  | 0 => by simp [cI]
  | n + 1 => by
    rw [List.replicate_succ, cI, cI_replicate a b n]
    by_cases h : b = a
    · simp only [if_pos h]
      omega
    · simp only [if_neg h]
      omega
theorem cI_flat {β : Type} (f : β → List α) (a : α) : ∀ l : List β, cI (l.flatMap f) a = (l.map fun x => cI (f x) a).sum
  | [] => by simp [cI]
  | x :: l => by rw [List.flatMap_cons, cI_append, List.map_cons, List.sum_cons, cI_flat f a l]
theorem cI_rep (a : α) (n : Nat) : ∀ l : List α, cI (l.flatMap fun b => List.replicate n b) a = (n : Int) * cI l a
  | [] => by simp [cI]
  | b :: l => by
    rw [List.flatMap_cons, cI_append, cI_replicate, cI_rep a n l, cI]
    by_cases h : b = a
    · rw [if_pos h, if_pos h, Int.mul_add]
      omega
    · rw [if_neg h, if_neg h, Int.zero_add, Int.zero_add]
/-- a dict that counts a list -/
structure Cnt (l : List (α × Int)) (M : List α) : Prop where
  nd : (l.map (·.1)).Nodup
  eq : ∀ a, aget l a = if a ∈ M then some (cI M a) else none
theorem Cnt.nil : Cnt ([] : List (α × Int)) [] := ⟨by simp, fun a => by simp [aget_nil]⟩
theorem Cnt.one (a : α) : Cnt [(a, 1)] [a] := ⟨by simp, fun b => by
  rw [aget_cons, aget_nil]
  by_cases h : a = b
  · subst h
    simp [cI]
  · rw [if_neg h, if_neg fun z => h (List.mem_singleton.mp z).symm]⟩
theorem Cnt.congr {l : List (α × Int)} {M N : List α} (h : Cnt l M) (k : ∀ a, cI M a = cI N a) : Cnt l N := ⟨h.nd, fun a => by
  have e : (a ∈ M) ↔ a ∈ N := by rw [← cI_pos, ← cI_pos, k a]
  rw [h.eq a, k a]
  by_cases c : a ∈ N
  · rw [if_pos c, if_pos (e.mpr c)]
  · rw [if_neg c, if_neg fun z => c (e.mp z)]⟩
theorem Cnt.key {l : List (α × Int)} {M : List α} (h : Cnt l M) {a : α} : a ∈ l.map (·.1) ↔ a ∈ M := by
  rw [← aget_some_iff, h.eq a]
  by_cases c : a ∈ M <;> simp [c]
theorem aget_mem : ∀ {l : List (α × Int)}, (l.map (·.1)).Nodup → ∀ p ∈ l, aget l p.1 = some p.2
  | [], _, p, hp => by cases hp
  | q :: l, h, p, hp => by
    rw [List.map_cons, List.nodup_cons] at h
    rw [aget_cons]
    rcases List.mem_cons.mp hp with rfl | hp
    · rw [if_pos rfl]
    · rw [if_neg (fun z : q.1 = p.1 => h.1 (List.mem_map.mpr ⟨p, hp, z.symm⟩))]
      exact aget_mem h.2 p hp
theorem Cnt.mem {l : List (α × Int)} {M : List α} (h : Cnt l M) {p : α × Int} (hp : p ∈ l) : p.1 ∈ M ∧ p.2 = cI M p.1 := by
  have e := aget_mem h.nd p hp
  rw [h.eq] at e
  by_cases c : p.1 ∈ M
  · rw [if_pos c] at e
    exact ⟨c, (Option.some.inj e).symm⟩
  · rw [if_neg c] at e
    cases e
theorem aput_get (l : List (α × Int)) (a : α) (b : Int) (x : α) : aget (aput l a b) x = if x = a then some b else aget l x := by
  unfold aput
  split
  · rename_i h
    obtain ⟨p0, hp0, e0⟩ := List.any_eq_true.mp h
    have e0 := of_decide_eq_true e0
    clear h
    induction l with
    | nil => cases hp0
    | cons q l ih =>
      rw [List.map_cons, aget_cons, aget_cons]
      by_cases c : q.1 = a
      · simp only [if_pos c]
        by_cases d : x = a
        · rw [if_pos d, if_pos (by rw [d]; exact c)]
        · rw [if_neg d, if_neg fun z => d (z.symm.trans c), if_neg fun z => d (z.symm.trans c)]
          have : aget (l.map fun p => if p.1 = a then (p.1, b) else p) x = aget l x := by
            clear ih hp0
            induction l with
            | nil => rfl
            | cons r l ih =>
              rw [List.map_cons, aget_cons, aget_cons, ih]
              by_cases e : r.1 = a
              · simp only [if_pos e]
                rw [if_neg fun z => d (z.symm.trans e), if_neg fun z => d (z.symm.trans e)]
              · simp only [if_neg e]
          exact this
      · simp only [if_neg c]
        have hp1 : p0 ∈ l := (List.mem_cons.mp hp0).resolve_left fun z => c (z ▸ e0)
        rw [ih hp1]
        by_cases d : q.1 = x
        · rw [if_pos d, if_pos d, if_neg fun z => c (d.trans z)]
        · rw [if_neg d, if_neg d]
  · rename_i h
    rw [aget_append]
    by_cases d : x = a
    · rw [if_pos d, d]
      have : aget l a = none := aget_none_iff.mpr fun z => by
        obtain ⟨p, hp, e⟩ := List.mem_map.mp z
        exact h (List.any_eq_true.mpr ⟨p, hp, decide_eq_true e⟩)
      rw [this, aget_cons, if_pos rfl]
    · rw [if_neg d]
      cases aget l x with
      | some v => rfl
      | none => rw [aget_cons, if_neg fun z => d z.symm, aget_nil]
theorem aput_keys (l : List (α × Int)) (a : α) (b : Int) (h : (l.map (·.1)).Nodup) : ((aput l a b).map (·.1)).Nodup := by
  unfold aput
  split
  · have : (l.map fun p => if p.1 = a then (p.1, b) else p).map (·.1) = l.map (·.1) := by
      rw [List.map_map]
      apply List.map_congr_left
      intro p _
      by_cases c : p.1 = a <;> simp [c]
    rw [this]
    exact h
  · rename_i z
    rw [List.map_append, List.nodup_append]
    refine ⟨h, by simp, ?_⟩
    intro x hx y hy e
    simp at hy
    subst hy
    subst e
    obtain ⟨p, hp, e⟩ := List.mem_map.mp hx
    exact z (List.any_eq_true.mpr ⟨p, hp, decide_eq_true e⟩)
/-- one more count -/
theorem Cnt.put {l : List (α × Int)} {M : List α} (h : Cnt l M) (a : α) {n : Nat} (hn : 0 < n) : Cnt (aput l a ((aget l a).getD 0 + (n : Int))) (M ++ List.replicate n a) := by
  refine ⟨aput_keys _ _ _ h.nd, fun x => ?_⟩
  rw [aput_get, cI_append, cI_replicate]
  by_cases d : x = a
  · subst d
    have hm : x ∈ M ++ List.replicate n x := List.mem_append_right _ (List.mem_replicate.mpr ⟨by omega, rfl⟩)
    rw [if_pos rfl, if_pos rfl, if_pos hm, h.eq x]
    by_cases c : x ∈ M
    · rw [if_pos c]
      rfl
    · have h1 := cI_nonneg x M
      have h2 : ¬ 0 < cI M x := fun z => c (cI_pos.mp z)
      have h3 : cI M x = 0 := by omega
      rw [if_neg c, h3]
      rfl
  · rw [if_neg d, if_neg (fun z : a = x => d z.symm), h.eq x]
    have e : (x ∈ M ++ List.replicate n a) ↔ x ∈ M := by
      rw [List.mem_append, List.mem_replicate]
      exact ⟨fun q => q.resolve_right fun z => d z.2, .inl⟩
    by_cases c : x ∈ M
    · rw [if_pos c, if_pos (e.mpr c), Int.add_zero]
    · rw [if_neg c, if_neg fun z => c (e.mp z)]
theorem sum_one {keys : List α} (h : α → Int) (a : α) (nd : keys.Nodup) : (keys.map fun k => (if a = k then 1 else 0) * h k).sum = if a ∈ keys then h a else 0 := by
  induction keys with
  | nil => simp
  | cons k ks ih =>
    rw [List.nodup_cons] at nd
    rw [List.map_cons, List.sum_cons, ih nd.2]
    by_cases c : a = k
    · subst c
      rw [if_pos rfl, if_neg nd.1, if_pos List.mem_cons_self]
      omega
    · rw [if_neg c]
      by_cases d : a ∈ ks
      · rw [if_pos d, if_pos (List.mem_cons_of_mem _ d)]
        omega
      · rw [if_neg d, if_neg fun z => (List.mem_cons.mp z).elim c d]
        omega
theorem sum_keys {keys : List α} (h : α → Int) (nd : keys.Nodup) : ∀ M : List α, (∀ a ∈ M, a ∈ keys) → (keys.map fun k => cI M k * h k).sum = (M.map h).sum
  | [], _ => by
    have : ∀ l : List α, (l.map fun k => cI ([] : List α) k * h k).sum = 0 := by
      intro l
      induction l with
      | nil => rfl
      | cons a l ih =>
        rw [List.map_cons, List.sum_cons, ih]
        simp [cI]
    rw [this]
    rfl
  | a :: M, hk => by
    have e : (keys.map fun k => cI (a :: M) k * h k).sum = (keys.map fun k => (if a = k then 1 else 0) * h k).sum + (keys.map fun k => cI M k * h k).sum := by
      clear hk nd
      induction keys with
      | nil => rfl
      | cons k ks ih =>
        rw [List.map_cons, List.map_cons, List.map_cons, List.sum_cons, List.sum_cons, List.sum_cons, ih, cI, Int.add_mul]
        omega
    rw [e, sum_one h a nd, if_pos (hk a List.mem_cons_self), sum_keys h nd M fun x hx => hk x (List.mem_cons_of_mem _ hx), List.map_cons, List.sum_cons]
/-- a sum over what a dict counts -/
theorem Cnt.sum {l : List (α × Int)} {M : List α} (c : Cnt l M) (h : α → Int) : (l.map fun p => p.2 * h p.1).sum = (M.map h).sum := by
  rw [← sum_keys h c.nd M fun a ha => c.key.mpr ha, List.map_map]
  congr 1
  apply List.map_congr_left
  intro p hp
  rw [(c.mem hp).2]
  rfl
theorem Cnt.toNat {l : List (α × Int)} {M : List α} (c : Cnt l M) {p : α × Int} (hp : p ∈ l) : 0 < p.2.toNat ∧ ((p.2.toNat : Nat) : Int) = p.2 := by
  obtain ⟨h1, h2⟩ := c.mem hp
  have := cI_pos.mpr h1
  omega
/-- a layer from a layer -/
theorem Cnt.layer {l l' : List (α × Int)} {M : List α} (c : Cnt l M) (G : α → List α) (h : Cnt l' (l.flatMap fun p => (G p.1).flatMap fun b => List.replicate p.2.toNat b)) : Cnt l' (M.flatMap G) := h.congr fun a => by
  rw [cI_flat, cI_flat, ← c.sum]
  congr 1
  apply List.map_congr_left
  intro p hp
  rw [cI_rep, (c.toNat hp).2]
theorem Cnt.len {l : List (α × Int)} {M S : List α} (c : Cnt l M) (h : ∀ a ∈ M, a ∈ S) : l.length ≤ S.length := by
  have := nodup_le c.nd fun a ha => h a (c.key.mp ha)
  rwa [List.length_map] at this
end
/-! loops that go through a list -/
theorem for_cons {g : D → M Unit} {b : M Fl} {d : D} {ds : List D} {e e1 : Mi.Env} (h1 : bindM (g d) (fun _ => b) e = .ok .nx e1) : forM' g b (d :: ds) e = forM' g b ds e1 := by
  have key : forM' g b (d :: ds) e = (bindM (bindM (g d) fun _ => b) fun fl => match fl with
    | .nx => forM' g b ds
    | .ct => forM' g b ds
    | .bk => pureM .nx
    | .rt d => pureM (.rt d)) e := by
    show (bindM (g d) (fun _ => bindM b fun fl => match fl with
      | .nx => forM' g b ds
      | .ct => forM' g b ds
      | .bk => pureM .nx
      | .rt d => pureM (.rt d)) e) = _
    unfold bindM
    cases g d e <;> rfl
  rw [key]
  generalize (bindM (g d) fun _ => b) = m at h1 ⊢
  unfold bindM
  rw [h1]
end Cut


set_option Elab.async false
set_option linter.all false
set_option maxRecDepth 100000
set_option maxHeartbeats 1000000
/-! Plain, part 38: comprehensions over told things; a thing is itself. -/
namespace Cut
open PySem Mi
open L2 (atI ixN atI_nat)
theorem lc_enc {β : Type} {g : D → M Unit} {t : M Bool} {el : M D} {vs : List Nat} {e e0 : Mi.Env} {enc : β → D} (q : β → Bool) (f : β → D) (hno : noOwn e.sl vs = true) (h0 : wipeE e vs = e0) (hr : restE e0 e vs = e) (xs : List β) (hl : xs.length ≤ 1000000)
    (h : ∀ x ∈ xs, ∃ ed, g (enc x) e0 = .ok () ed ∧ t ed = .ok (q x) ed ∧ (q x = true → el ed = .ok (f x) ed) ∧ wipeE ed vs = e0) : lcRun g t el vs (xs.map enc) e = .ok (.lst ((xs.filter q).map f)) e := by
  have go : ∀ (ds : List β) (acc : List D), acc.length + ds.length ≤ 1000000 → (∀ d ∈ ds, ∃ ed, g (enc d) e0 = .ok () ed ∧ t ed = .ok (q d) ed ∧ (q d = true → el ed = .ok (f d) ed) ∧ wipeE ed vs = e0) → lcGo g t el vs (ds.map enc) acc e0 = .ok (acc ++ (ds.filter q).map f) e0 := by
    intro ds
    induction ds with
    | nil =>
      intro acc _ _
      simp [lcGo]
    | cons d ds ih =>
      intro acc hl h
      obtain ⟨ed, h1, h2, h3, h4⟩ := h d List.mem_cons_self
      have hz : acc.length + 1 ≤ 1000000 := by simp at hl; omega
      rw [List.map_cons, lcGo_cons]
      cases c : q d with
      | false =>
        have h1' := ih acc (by simp at hl; omega) fun x hx => h x (List.mem_cons_of_mem _ hx)
        rw [c] at h2
        simp [h1, h2, h4, h1', c]
      | true =>
        have h1' := ih (acc ++ [f d]) (by simp at hl ⊢; omega) fun x hx => h x (List.mem_cons_of_mem _ hx)
        rw [c] at h2
        simp [h1, h2, h3 c, h4, h1', c, hz]
  unfold lcRun
  rw [if_pos hno, h0, go xs [] (by simpa using hl) h]
  simp only [List.nil_append, hr]
mutual
theorem eqv_self : ∀ (n : Nat) (d : D), d.plain n = true → d.eqv d = true
  | _, .non, _ => rfl
  | _, .bl b, _ => by simp [D.eqv]
  | _, .int i, _ => by simp [D.eqv]
  | _, .str x, _ => by simp [D.eqv]
  | 0, .lst l, h => by simp [D.plain] at h
  | n + 1, .lst l, h => by
    show D.eqvs l l = true
    exact eqvs_self n l (by simpa [D.plain] using h)
  | 0, .tup l, h => by simp [D.plain] at h
  | n + 1, .tup l, h => by
    show D.eqvs l l = true
    exact eqvs_self n l (by simpa [D.plain] using h)
  | _, .dct l, h => by simp [D.plain] at h
  | _, .obj l, h => by simp [D.plain] at h
  | _, .row, h => by simp [D.plain] at h
theorem eqvs_self : ∀ (n : Nat) (l : List D), D.plains n l = true → D.eqvs l l = true
  | _, [], _ => rfl
  | n, x :: l, h => by
    have h' : (D.plain n x && D.plains n l) = true := by cases n <;> exact h
    obtain ⟨h1, h2⟩ := Bool.and_eq_true_iff.mp h'
    show (D.eqv x x && D.eqvs l l) = true
    rw [eqv_self n x h1, eqvs_self n l h2]
    rfl
end
theorem eq_self {d : D} (h : d.plain 60 = true) : eqF d d = some (.bl true) := by
  unfold eqF
  rw [h, eqv_self 60 d h]
  rfl
theorem ne_self {d : D} (h : d.plain 60 = true) : neF d d = some (.bl false) := by
  unfold neF
  rw [h, eqv_self 60 d h]
  rfl
end Cut


set_option Elab.async false
set_option linter.all false
set_option maxRecDepth 100000
set_option maxHeartbeats 1000000
/-! P14a: words of a line (no program in sight). -/
namespace Cut
open PySem Mi
open TL (tl tl_append len_tl ext_tl joinL spl spl_part1 spl_last1 tl_join join_eq map_tl_inj split_spl kind_ok numL numL_lt tl_num spl_join split_join)
/-- the pieces between spaces that are not empty -/
def tokL (l : List Nat) : List (List Nat) := (spl [32] 0 [] l).filter fun p => !p.isEmpty
theorem tok_nil : tokL [] = [] := rfl
theorem tok_space (l : List Nat) : tokL (32 :: l) = tokL l := by
  have h := spl_part1 (s := 32) (S := []) (p := []) (rest := l) (acc := []) (by simp)
  unfold tokL
  have e : (32 :: l : List Nat) = [] ++ ([32] ++ l) := rfl
  rw [e, h]
  rfl
theorem tok_spaces (l : List Nat) : ∀ n : Nat, tokL (List.replicate n 32 ++ l) = tokL l
  | 0 => rfl
  | n + 1 => by
    rw [List.replicate_succ, List.cons_append, tok_space, tok_spaces l n]
theorem tok_word {w : List Nat} (h : 32 ∉ w) (hne : w ≠ []) (l : List Nat) : tokL (w ++ 32 :: l) = w :: tokL l := by
  have h2 := spl_part1 (s := 32) (S := []) (p := w) (rest := l) (acc := []) h
  unfold tokL
  have e : w ++ 32 :: l = w ++ ([32] ++ l) := rfl
  rw [e, h2]
  cases w with
  | nil => exact absurd rfl hne
  | cons a w => rfl
theorem tok_last {w : List Nat} (h : 32 ∉ w) (hne : w ≠ []) : ∀ n : Nat, tokL (w ++ List.replicate n 32) = [w]
  | 0 => by
    have h2 := spl_last1 (s := 32) (S := []) (p := w) (acc := []) h
    unfold tokL
    rw [List.replicate_zero, List.append_nil, h2]
    cases w with
    | nil => exact absurd rfl hne
    | cons a w => rfl
  | n + 1 => by
    rw [List.replicate_succ, tok_word h hne]
    have := tok_spaces [] n
    rw [List.append_nil] at this
    rw [this, tok_nil]
/-- a word with spaces about it -/
def pcL (a : Nat) (w : List Nat) (b : Nat) : List Nat := List.replicate a 32 ++ w ++ List.replicate b 32
theorem tok_pc {w : List Nat} (h : 32 ∉ w) (hne : w ≠ []) (a b : Nat) (l : List Nat) : tokL (pcL a w b ++ 32 :: l) = w :: tokL l := by
  unfold pcL
  rw [List.append_assoc, List.append_assoc, tok_spaces]
  have e : List.replicate b 32 ++ 32 :: l = 32 :: (List.replicate b 32 ++ l) := by
    have h1 : List.replicate b 32 ++ [32] = 32 :: List.replicate b (32 : Nat) := by
      rw [← List.replicate_succ, List.replicate_succ']
    have h2 : 32 :: l = [32] ++ l := rfl
    rw [h2, ← List.append_assoc, h1]
    rfl
  rw [e, tok_word h hne, tok_spaces]
theorem tok_pc1 {w : List Nat} (h : 32 ∉ w) (hne : w ≠ []) (a b : Nat) : tokL (pcL a w b) = [w] := by
  unfold pcL
  rw [List.append_assoc, tok_spaces, tok_last h hne]
theorem tok_join : ∀ ps : List (Nat × List Nat × Nat), ps ≠ [] → (∀ p ∈ ps, 32 ∉ p.2.1 ∧ p.2.1 ≠ []) → tokL (joinL [32] (ps.map fun p => pcL p.1 p.2.1 p.2.2)) = ps.map fun p => p.2.1
  | [], h, _ => absurd rfl h
  | [p], _, h => by
    obtain ⟨h1, h2⟩ := h p (List.mem_singleton.mpr rfl)
    exact tok_pc1 h1 h2 _ _
  | p :: q :: r, _, h => by
    obtain ⟨h1, h2⟩ := h p List.mem_cons_self
    have ih := tok_join (q :: r) (by simp) fun x hx => h x (List.mem_cons_of_mem _ hx)
    show tokL (pcL p.1 p.2.1 p.2.2 ++ ([32] ++ joinL [32] ((q :: r).map fun p => pcL p.1 p.2.1 p.2.2))) = p.2.1 :: (q :: r).map fun p => p.2.1
    rw [← ih]
    exact tok_pc h1 h2 _ _ _
/-! texts -/
def spS : Nat → Str
  | 0 => Str.empty
  | n + 1 => (" " : Str) ++ spS n
theorem tl_sp : ∀ n, tl (spS n) = List.replicate n 32
  | 0 => rfl
  | n + 1 => by
    show tl ((" " : Str) ++ spS n) = _
    rw [tl_append, tl_sp n]
    rfl
def pcS (a : Nat) (w : Str) (b : Nat) : Str := spS a ++ w ++ spS b
theorem tl_pc (a : Nat) (w : Str) (b : Nat) : tl (pcS a w b) = pcL a (tl w) b := by
  unfold pcS pcL
  rw [tl_append, tl_append, tl_sp, tl_sp]
theorem tl_space : tl (" " : Str) = [32] := rfl
theorem tl_line : tl ("\n" : Str) = [10] := rfl
def lineS (ws : List Str) : Str := Txt.join " " ws
/-- a line with spaces put in has its words -/
theorem toks (ps : List (Nat × Str × Nat)) (hne : ps ≠ []) (h : ∀ p ∈ ps, 32 ∉ tl p.2.1 ∧ tl p.2.1 ≠ []) : (Txt.split (lineS (ps.map fun p => pcS p.1 p.2.1 p.2.2)) " ").filter (fun w => !(tl w).isEmpty) = ps.map fun p => p.2.1 := by
  refine map_tl_inj ?_
  have e1 : ((Txt.split (lineS (ps.map fun p => pcS p.1 p.2.1 p.2.2)) " ").filter (fun w => !(tl w).isEmpty)).map tl = tokL (tl (lineS (ps.map fun p => pcS p.1 p.2.1 p.2.2))) := by
    unfold tokL
    rw [← tl_space, ← split_spl _ (" " : Str) (by decide) (kind_ok (by decide +kernel)), List.filter_map]
    rfl
  rw [e1]
  unfold lineS
  rw [join_eq, tl_join, tl_space, List.map_map]
  have e2 : (ps.map (tl ∘ fun p => pcS p.1 p.2.1 p.2.2)) = ((ps.map fun p => (p.1, tl p.2.1, p.2.2)).map fun p => pcL p.1 p.2.1 p.2.2) := by
    rw [List.map_map]
    refine List.map_congr_left fun p _ => ?_
    exact tl_pc _ _ _
  rw [e2, tok_join _ (by simpa using hne) (fun p hp => by
    obtain ⟨q, hq, rfl⟩ := List.mem_map.mp hp
    exact h q hq), List.map_map, List.map_map]
  rfl
theorem no_line_join : ∀ (ws : List (List Nat)), (∀ w ∈ ws, 10 ∉ w) → 10 ∉ joinL [32] ws
  | [], _ => by simp [joinL]
  | [w], h => h w (List.mem_singleton.mpr rfl)
  | w :: v :: r, h => by
    have ih := no_line_join (v :: r) fun x hx => h x (List.mem_cons_of_mem _ hx)
    have h1 := h w List.mem_cons_self
    show 10 ∉ w ++ ([32] ++ joinL [32] (v :: r))
    simp [h1, ih]
theorem line_no {ws : List Str} (h : ∀ w ∈ ws, 10 ∉ tl w) : 10 ∉ tl (lineS ws) := by
  unfold lineS
  rw [join_eq, tl_join]
  refine no_line_join _ fun w hw => ?_
  obtain ⟨v, hv, rfl⟩ := List.mem_map.mp hw
  exact h v hv
/-- the lines of a text, told back -/
theorem lines_back {ls : List Str} (hne : ls ≠ []) (h : ∀ l ∈ ls, 10 ∉ tl l) : Txt.split (Txt.join "\n" ls) "\n" = ls := split_join tl_line (by decide +kernel) hne h
/-! numbers -/
def nS (n : Int) : Str := toString n
theorem tl_nS {n : Int} (h0 : 0 ≤ n) (h1 : n ≤ 9) : tl (nS n) = [48 + n.toNat] := by
  obtain ⟨m, rfl⟩ : ∃ m : Nat, n = (m : Int) := ⟨n.toNat, by omega⟩
  have := tl_num m
  rw [numL_lt (by omega)] at this
  exact this
theorem nS_ok {n : Int} (h0 : 0 ≤ n) (h1 : n ≤ 9) : 32 ∉ tl (nS n) ∧ tl (nS n) ≠ [] ∧ 10 ∉ tl (nS n) ∧ (nS n).length = 1 := by
  have h := tl_nS h0 h1
  refine ⟨?_, ?_, ?_, ?_⟩
  · rw [h]
    simp
    omega
  · rw [h]
    simp
  · rw [h]
    simp
    omega
  · rw [len_tl, h]
    rfl
theorem nS_int {n : Int} (h0 : 0 ≤ n) (h1 : n ≤ 9) : PySem.intText? (nS n) = some n := PySem.W.KIN.num_reads h0 (by omega)
end Cut


set_option Elab.async false
set_option linter.all false
set_option maxRecDepth 100000
set_option maxHeartbeats 1000000
/-! P14b: what write and read answer. -/
namespace Cut
open PySem Mi
open TL (tl tl_append len_tl ext_tl joinL tl_join join_eq)
open L2 (atI ixN atI_nat)
@[simp ↓] theorem joinM_app (ma : M D) (mb : M Ref) (e : Mi.Env) : joinM ma mb e = (ma e).bind fun d => match d with
  | .str a => bindM mb fun y => bindM (derefM y) fun d' => liftO (joinF a d')
  | _ => errM := rfl
@[simp ↓] theorem splitM_app (ma : M D) (mb : M Ref) (e : Mi.Env) : splitM ma mb e = (ma e).bind fun d => match d with
  | .str a => bindM mb fun y => bindM (derefM y) fun d' => liftO (splitF a d')
  | _ => errM := rfl
@[simp ↓] theorem raiseXM_app (c : Str) (fs : List Str) (r : M (List D)) (e : Mi.Env) : raiseXM c fs r e = (r e).bind fun ds e => Res.exc ⟨c, (fs.zip ds).reverse⟩ e := rfl
@[simp ↓] theorem eqOM_app (ma mb : M Ref) (g : FnM) (neg : Bool) (e : Mi.Env) : eqOM ma mb g neg e = (ma e).bind fun x => bindM mb fun y => bindM (derefM x) fun d => bindM (derefM y) fun d' => match d with
  | .obj l => (match d' with
    | .obj l' => callG g [.obj l, .obj l'] neg
    | .tup l' => if neg = true then errM else callG g [.obj l, .tup l'] neg
    | _ => errM)
  | _ => liftO (eqDF neg d d') := rfl
theorem callN_ok {g : FnM} {ds : List D} {d : D} {sl : List Mi.Slot} {row : RowS} (h : g ds row = .ret d row) : callN g ds ⟨sl, row⟩ = .ok d ⟨sl, row⟩ := by
  unfold callN
  rw [h]
theorem callG_ok {g : FnM} {ds : List D} {b neg : Bool} {sl : List Mi.Slot} {row : RowS} (h : g ds row = .ret (.bl b) row) : callG g ds neg ⟨sl, row⟩ = .ok (.bl (b != neg)) ⟨sl, row⟩ := by
  unfold callG bindM
  rw [callN_ok h]
  rfl
/-! properties, == -/
theorem parts_ok (a b c d e : D) (row : RowS) : F_parts_of [.obj [a, b, c, d, e]] row = .ret (.tup [a, b, c, d, e]) row := by simp [F_parts_of, fnM_app, m_parts_of]
theorem eq_obj {a b c d e a' b' c' d' e' : D} (h : (D.tup [a, b, c, d, e]).plain 60 = true) (h' : (D.tup [a', b', c', d', e']).plain 60 = true) (row : RowS) : F_eq [.obj [a, b, c, d, e], .obj [a', b', c', d', e']] row = .ret (.bl ((D.tup [a, b, c, d, e]).eqv (.tup [a', b', c', d', e']))) row := by
  have hr : isRuleF (.obj [a', b', c', d', e']) = some (.bl true) := rfl
  have h1 := parts_ok a b c d e row
  have h2 := parts_ok a' b' c' d' e' row
  have h3 : eqF (.tup [a, b, c, d, e]) (.tup [a', b', c', d', e']) = some (.bl ((D.tup [a, b, c, d, e]).eqv (.tup [a', b', c', d', e']))) := by
    unfold eqF
    rw [h, h']
    rfl
  generalize D.tup [a, b, c, d, e] = t1 at *
  generalize D.tup [a', b', c', d', e'] = t2 at *
  generalize D.obj [a, b, c, d, e] = o1 at *
  generalize D.obj [a', b', c', d', e'] = o2 at *
  simp [F_eq, fnM_app, m_eq, hr, h1, h2, h3]
theorem plain_t (r : PR) : r.t.plain 60 = true := by
  have hw := plains_wD 57 r.rows
  have hh : (hD r.high).plain 59 = true := by cases r.high <;> rfl
  show ((D.int r.many).plain 59 && ((D.int r.wide).plain 59 && ((D.tup (wD r.rows)).plain 59 && ((D.int r.low).plain 59 && ((hD r.high).plain 59 && D.plains 59 []))))) = true
  rw [hh]
  have e : (D.tup (wD r.rows)).plain 59 = D.plains 58 (wD r.rows) := rfl
  rw [e, hw]
  rfl
theorem eq_rule (r : PR) (row : RowS) : F_eq [r.d, r.d] row = .ret (.bl true) row := by
  have h := eq_obj (plain_t r) (plain_t r) row
  have e := eqv_self 60 r.t (plain_t r)
  have e' : (D.tup [D.int r.many, D.int r.wide, D.tup (wD r.rows), D.int r.low, hD r.high]).eqv (D.tup [D.int r.many, D.int r.wide, D.tup (wD r.rows), D.int r.low, hD r.high]) = true := e
  rw [e'] at h
  exact h
/-! words of texts -/
def sD (l : List Str) : D := .lst (l.map D.str)
theorem strs_map : ∀ l : List Str, strsOf (l.map D.str) = some l
  | [] => rfl
  | x :: l => by
    show (strsOf (l.map D.str)).map (x :: ·) = _
    rw [strs_map l]
    rfl
theorem join_ok {a : Str} {l : List Str} (h : (l.map (·.length)).sum + l.length * a.length ≤ 16777216) : joinF a (sD l) = some (.str (Txt.join a l)) := by
  unfold joinF sD
  simp only [strs_map]
  rw [if_pos h]
theorem joinL_len (S : List Nat) : ∀ ps : List (List Nat), (joinL S ps).length ≤ (ps.map List.length).sum + ps.length * S.length
  | [] => by simp [joinL]
  | [p] => by simp [joinL]
  | p :: q :: r => by
    have ih := joinL_len S (q :: r)
    show (p ++ (S ++ joinL S (q :: r))).length ≤ _
    rw [List.length_append, List.length_append, List.map_cons, List.sum_cons, List.length_cons, Nat.succ_mul]
    omega
theorem join_len (a : Str) (l : List Str) : (Txt.join a l).length ≤ (l.map (·.length)).sum + l.length * a.length := by
  rw [join_eq, len_tl, tl_join]
  refine Nat.le_trans (joinL_len _ _) ?_
  rw [List.map_map, List.length_map, len_tl a]
  have e : (List.length ∘ tl) = fun x : Str => x.length := funext fun x => (len_tl x).symm
  rw [e]
  exact Nat.le_refl _
theorem sum_le {B : Nat} : ∀ {l : List Str}, (∀ x ∈ l, x.length ≤ B) → (l.map (·.length)).sum ≤ l.length * B
  | [], _ => by simp
  | x :: l, h => by
    have ih := sum_le fun y hy => h y (List.mem_cons_of_mem _ hy)
    have h1 := h x List.mem_cons_self
    rw [List.map_cons, List.sum_cons, List.length_cons, Nat.succ_mul]
    omega
theorem len_sp : (" " : Str).length = 1 := rfl
theorem len_nl : ("\n" : Str).length = 1 := rfl
theorem line_ok {ws : List Str} (hl : ws.length ≤ 6) (h : ∀ w ∈ ws, w.length ≤ 20) : joinF " " (sD ws) = some (.str (lineS ws)) ∧ (lineS ws).length ≤ 126 := by
  have h1 := sum_le h
  have h2 := join_len " " ws
  rw [len_sp] at h2
  have h3 : ws.length * 20 ≤ 120 := by omega
  exact ⟨join_ok (by rw [len_sp]; omega), by unfold lineS; omega⟩
theorem split_ok {a b : Str} (hb : (b.length == 0) = false) (ha : a.length ≤ 1000000) : splitF a (.str b) = some (.lst ((Txt.split a b).map D.str)) := by
  unfold splitF
  simp only
  rw [if_pos ⟨hb, ha⟩]
theorem strF_ok {n : Int} (h0 : 0 ≤ n) (h1 : n ≤ 9) : strF (.int n) = some (.str (nS n)) := by
  unfold strF
  have : n.natAbs.log2 < 1920 := by
    have h2 : n.natAbs ≤ 9 := by omega
    have h3 : n.natAbs.log2 ≤ n.natAbs := Nat.log2_le_self _
    omega
  simp only
  rw [if_pos this]
  rfl
theorem eqv_s (x y : Str) : (D.str x).eqv (.str y) = decide (x = y) := by
  show (x == y) = _
  by_cases h : x = y
  · subst h
    simp
  · simp [h]
/-- signs that all can lay -/
def Fine (x : Str) : Prop := ∀ c ∈ tl x, c < 128
theorem Fine.plain {x : Str} (h : Fine x) (n : Nat) : (D.str x).plain n = true := by
  have e : (D.str x).plain n = PyData.canLay0 (.str x) := by cases n <;> simp only [D.plain]
  rw [e]
  simp only [PyData.canLay0, PyData.strOk]
  rw [← Array.all_toList, List.all_eq_true]
  intro c hc
  have := h c hc
  exact decide_eq_true (by omega)
theorem plains_s (n : Nat) : ∀ l : List Str, (∀ x ∈ l, Fine x) → D.plains n (l.map D.str) = true
  | [], _ => by cases n <;> simp [D.plains]
  | x :: l, h => by
    have ih := plains_s n l fun y hy => h y (List.mem_cons_of_mem _ hy)
    have h1 := (h x List.mem_cons_self).plain n
    have e : D.plains n ((x :: l).map D.str) = ((D.str x).plain n && D.plains n (l.map D.str)) := by cases n <;> simp [D.plains]
    rw [e, h1, ih]
    rfl
theorem plain_sD {l : List Str} (h : ∀ x ∈ l, Fine x) : (sD l).plain 60 = true := by
  have e : (sD l).plain 60 = D.plains 59 (l.map D.str) := by simp [sD, D.plain]
  rw [e, plains_s 59 l h]
theorem eqvs_s : ∀ l m : List Str, D.eqvs (l.map D.str) (m.map D.str) = decide (l = m)
  | [], [] => by simp [D.eqvs]
  | [], _ :: _ => by simp [D.eqvs]
  | _ :: _, [] => by simp [D.eqvs]
  | x :: l, y :: m => by
    show ((D.str x).eqv (.str y) && D.eqvs (l.map D.str) (m.map D.str)) = _
    rw [eqv_s, eqvs_s l m]
    by_cases h : x = y <;> by_cases h2 : l = m <;> simp [h, h2]
theorem eq_sD {l m : List Str} (hl : ∀ x ∈ l, Fine x) (hm : ∀ x ∈ m, Fine x) : eqF (sD l) (sD m) = some (.bl (decide (l = m))) := by
  unfold eqF
  rw [plain_sD hl, plain_sD hm]
  show some (D.bl (D.eqvs _ _)) = _
  rw [eqvs_s]
theorem ne_sD {l m : List Str} (hl : ∀ x ∈ l, Fine x) (hm : ∀ x ∈ m, Fine x) : neF (sD l) (sD m) = some (.bl (!decide (l = m))) := by
  unfold neF
  rw [plain_sD hl, plain_sD hm]
  show some (D.bl (!D.eqvs _ _)) = _
  rw [eqvs_s]
theorem ne_s {x y : Str} (hx : Fine x) (hy : Fine y) : neF (.str x) (.str y) = some (.bl (!decide (x = y))) := by
  unfold neF
  rw [hx.plain, hy.plain]
  show some (D.bl (!(D.str x).eqv (.str y))) = _
  rw [eqv_s]
theorem notin_s {x : Str} {l : List Str} (hx : Fine x) (hl : ∀ y ∈ l, Fine y) : inF true (.str x) (sD l) = some (.bl (!decide (x ∈ l))) := by
  unfold inF sD
  simp only [hx.plain, plains_s 20 l hl, Bool.and_self, if_true]
  refine congrArg some (congrArg D.bl (congrArg not ?_))
  clear hl
  induction l with
  | nil => rfl
  | cons y l ih =>
    rw [List.map_cons, List.any_cons, ih, eqv_s]
    by_cases h : y = x
    · simp [h]
    · have h' : ¬ x = y := fun z => h z.symm
      simp [h, h']
theorem ix_sD {l : List Str} {k : Nat} {x : Str} (h : l[k]? = some x) : ixF (sD l) (.int (k : Int)) = some (.str x) := at_nat (by rw [List.getElem?_map, h]; rfl)
theorem len_sD (l : List Str) : lenF (sD l) = some (.int (l.length : Int)) := by
  show some (D.int ((l.map D.str).length : Int)) = _
  rw [List.length_map]
theorem nS_fine {n : Int} (h0 : 0 ≤ n) (h1 : n ≤ 9) : Fine (nS n) := by
  intro c hc
  rw [tl_nS h0 h1] at hc
  simp at hc
  omega
/-! a number in a line -/
theorem e_number_in {ws : List Str} {k : Nat} {n low high : Int} {line : D} (hl : line ≠ .row) (hk : ws[k]? = some (nS n)) (h0 : 0 ≤ low) (h1 : low ≤ n) (h2 : n ≤ high) (h3 : high ≤ 9) (row : RowS) :
    F_number_in [sD ws, .int (k : Int), line, .int low, .int high] row = .ret (.int n) row := by
  have hlen : k < ws.length := (List.getElem?_eq_some_iff.mp hk).1
  have hge : geF (.int (k : Int)) (.int (ws.length : Int)) = some (.bl false) := by
    show some (D.bl (decide ((ws.length : Int) ≤ (k : Int)))) = _
    rw [decide_eq_false (by omega)]
  have hc := lc_enc (g := gN 5) (t := pureM true) (el := c_number_in_1) (vs := [5]) (e := ⟨[.val (sD ws), .val (.int (k : Int)), .val line, .val (.int low), .val (.int high), .no], row⟩) (e0 := ⟨[.val (sD ws), .val (.int (k : Int)), .val line, .val (.int low), .val (.int high), .no], row⟩) (enc := D.int) (fun _ => true) (fun i => .str (nS i)) rfl rfl rfl (rngI low (high + 1)) (by unfold rngI; rw [List.length_map, List.length_range]; omega) (fun i hi => by
    obtain ⟨i0, i1⟩ := rngI_mem hi
    have hs := strF_ok (n := i) (by omega) (by omega)
    exact ⟨⟨[.val (sD ws), .val (.int (k : Int)), .val line, .val (.int low), .val (.int high), .val (.int i)], row⟩, rfl, rfl, fun _ => by simp [c_number_in_1, hs], rfl⟩)
  rw [← rngL_eq, show (rngI low (high + 1)).filter (fun _ => true) = rngI low (high + 1) from List.filter_eq_self.mpr fun _ _ => rfl] at hc
  have hmap : (rngI low (high + 1)).map (fun i => D.str (nS i)) = ((rngI low (high + 1)).map nS).map D.str := by rw [List.map_map]; rfl
  rw [hmap] at hc
  have hr : range2D [.int low, .int (high + 1)] = some (rngL low (high + 1)) := range2_ok (okI_small (by omega) (by omega)) (okI_small (by omega) (by omega))
  have hin := notin_s (x := nS n) (l := (rngI low (high + 1)).map nS) (nS_fine (by omega) (by omega)) (fun y hy => by
    obtain ⟨i, hi, rfl⟩ := List.mem_map.mp hy
    obtain ⟨i0, i1⟩ := rngI_mem hi
    exact nS_fine (by omega) (by omega))
  have hm : nS n ∈ (rngI low (high + 1)).map nS := by
    refine List.mem_map.mpr ⟨n, ?_, rfl⟩
    unfold rngI
    exact List.mem_map.mpr ⟨(n - low).toNat, List.mem_range.mpr (by omega), by omega⟩
  rw [decide_eq_true hm] at hin
  have hix := ix_sD hk
  have hlen2 := len_sD ws
  have hint : intTF (.str (nS n)) = some (.int n) := by
    unfold intTF
    simp only [nS_int (show 0 ≤ n by omega) (show n ≤ 9 by omega)]
    rw [if_pos (by rw [(nS_ok (n := n) (by omega) (by omega)).2.2.2]; decide)]
  unfold sD at hin
  generalize rngL low (high + 1) = rl at *
  generalize ((rngI low (high + 1)).map nS).map D.str = sl at *
  generalize sD ws = wd at *
  have hadd : addF (.int high) (.int 1) = some (.int (high + 1)) := rfl
  cases line with
  | row => exact absurd rfl hl
  | _ => simp [F_number_in, fnM_app, m_number_in, hge, hc, hr, hin, hix, hlen2, hint, hadd, OD.d]
end Cut


set_option Elab.async false
set_option linter.all false
set_option maxRecDepth 100000
set_option maxHeartbeats 1000000
/-! P14c: lines read. -/
namespace Cut
open PySem Mi
open TL (tl tl_append len_tl ext_tl joinL tl_join join_eq)
open L2 (atI ixN atI_nat)
theorem fine_lit (s : String) (h : (s.toList.all fun c => decide (c.toNat < 128)) = true) : Fine (Str.ofString s) := by
  intro c hc
  rw [TL.tl_ofString] at hc
  obtain ⟨d, hd, rfl⟩ := List.mem_map.mp hc
  exact of_decide_eq_true (List.all_eq_true.mp h d hd)
theorem fine_rule : Fine ("rule" : Str) := fine_lit _ (by decide +kernel)
theorem fine_word : Fine ("word" : Str) := fine_lit _ (by decide +kernel)
theorem fine_none : Fine ("none" : Str) := fine_lit _ (by decide +kernel)
theorem fine_nil : Fine ("" : Str) := fine_lit _ (by decide +kernel)
def mostS : Option Int → Str
  | none => "none"
  | some h => nS h
def hdW (r : PR) : List Str := ["rule", nS r.many, nS r.wide, nS r.low, mostS r.high]
def wlW (w : List Int) : List Str := "word" :: w.map nS
theorem ne_none {h : Int} (h0 : 0 ≤ h) (h1 : h ≤ 9) : nS h ≠ "none" := fun e => by
  have h2 := congrArg (fun x : Str => x.length) e
  have h3 : ("none" : Str).length = 4 := by decide +kernel
  simp only [(nS_ok h0 h1).2.2.2, h3] at h2
  cases h2
end Cut


set_option Elab.async false
set_option linter.all false
set_option maxRecDepth 100000
set_option maxHeartbeats 1000000
/-! P14d: a text read. -/
namespace Cut
open PySem Mi
open TL (tl tl_append len_tl ext_tl joinL tl_join join_eq spl pre)
open L2 (atI ixN atI_nat)
theorem spl_mem (S : List Nat) : ∀ (l : List Nat) (k : Nat) (acc : List Nat), ∀ p ∈ spl S k acc l, ∀ c ∈ p, c ∈ acc ∨ c ∈ l
  | [], k, acc, p, hp, c, hc => by
    rw [TL.spl_nil] at hp
    rw [List.mem_singleton.mp hp] at hc
    exact .inl hc
  | a :: r, 0, acc, p, hp, c, hc => by
    by_cases h : pre S (a :: r) = true
    · rw [TL.spl_hit h] at hp
      rcases List.mem_cons.mp hp with rfl | hp
      · exact .inl hc
      · rcases spl_mem S r _ _ p hp c hc with z | z
        · cases z
        · exact .inr (List.mem_cons_of_mem _ z)
    · rw [TL.spl_miss (by simpa using h)] at hp
      rcases spl_mem S r _ _ p hp c hc with z | z
      · rcases List.mem_append.mp z with z | z
        · exact .inl z
        · rw [List.mem_singleton.mp z]
          exact .inr List.mem_cons_self
      · exact .inr (List.mem_cons_of_mem _ z)
  | a :: r, k + 1, acc, p, hp, c, hc => by
    have e : spl S (k + 1) acc (a :: r) = spl S k acc r := rfl
    rw [e] at hp
    rcases spl_mem S r _ _ p hp c hc with z | z
    · exact .inl z
    · exact .inr (List.mem_cons_of_mem _ z)
theorem split_fine {L : Str} (h : Fine L) : ∀ w ∈ Txt.split L " ", Fine w := fun w hw c hc => by
  have e := TL.split_spl L (" " : Str) (by decide) (TL.kind_ok (by decide +kernel))
  have hm : tl w ∈ spl (tl (" " : Str)) 0 [] (tl L) := by
    rw [← e]
    exact List.mem_map_of_mem hw
  rcases spl_mem _ _ _ _ _ hm c hc with z | z
  · cases z
  · exact h c z
def wordsOf (L : Str) : List Str := (Txt.split L " ").filter fun w => !(tl w).isEmpty
theorem words_filter (l : List Str) : l.filter (fun w => !(tl w).isEmpty) = l.filter fun w : Str => !decide (w = ("" : Str)) := by
  refine List.filter_congr fun w _ => ?_
  by_cases h : w = ("" : Str)
  · subst h
    rfl
  · have : tl w ≠ [] := fun z => h (ext_tl (by rw [z]; rfl))
    cases e : tl w with
    | nil => exact absurd e this
    | cons a l => simp [h]
/-- a line that can be read -/
structure LineOk (L : Str) : Prop where
  fine : Fine L
  no : 10 ∉ tl L
  len : L.length ≤ 126
theorem at_neg1 (l : List D) (x : D) : atI (l ++ [x]) (-1) = some x := by
  have e : (-1 : Int) + ((l ++ [x]).length : Int) = (l.length : Int) := by
    rw [List.length_append]
    simp
    omega
  unfold atI ixN
  rw [if_neg (by decide), if_pos (by rw [List.length_append]; simp; omega), e]
  simp
theorem ne_lnil {l : List D} (h : D.plains 59 l = true) : neF (.lst l) (.lst []) = some (.bl (!l.isEmpty)) := by
  have h1 : (D.lst l).plain 60 = true := by simpa [D.plain] using h
  unfold neF
  rw [h1]
  cases l <;> rfl
end Cut


set_option Elab.async false
set_option linter.all false
set_option maxRecDepth 100000
set_option maxHeartbeats 1000000
/-! P14e: a rule written. -/
namespace Cut
open PySem Mi
open TL (tl tl_append len_tl ext_tl joinL tl_join join_eq)
open L2 (atI ixN atI_nat)
@[simp ↓] theorem extM_app3 (i : Nat) (m : M D) (e : Mi.Env) : extM i m e = bindM (ownL i) (fun _ => bindM m fun d => match d with
  | .lst k => bindM (ownL i) fun l => bindM (small (l ++ k)) fun _ => bindM (setM i (.own (.lst (l ++ k)))) fun _ => pureM .nx
  | _ => errM) e := rfl
/-- words of a line -/
structure WsOk (ws : List Str) : Prop where
  ne : ws ≠ []
  len : ws.length ≤ 5
  ok : ∀ w ∈ ws, 32 ∉ tl w ∧ tl w ≠ [] ∧ 10 ∉ tl w ∧ w.length ≤ 4 ∧ Fine w
theorem lit_ok (s : String) (h : (decide (32 ∉ s.toList.map Char.toNat) && decide (s.toList.map Char.toNat ≠ []) && decide (10 ∉ s.toList.map Char.toNat) && decide ((s.toList.map Char.toNat).length ≤ 4) && (s.toList.all fun c => decide (c.toNat < 128))) = true) :
    32 ∉ tl (Str.ofString s) ∧ tl (Str.ofString s) ≠ [] ∧ 10 ∉ tl (Str.ofString s) ∧ (Str.ofString s).length ≤ 4 ∧ Fine (Str.ofString s) := by
  simp only [Bool.and_eq_true, decide_eq_true_eq] at h
  obtain ⟨⟨⟨⟨h1, h2⟩, h3⟩, h4⟩, h5⟩ := h
  rw [len_tl, TL.tl_ofString]
  exact ⟨h1, h2, h3, h4, fine_lit s h5⟩
theorem num_ok {n : Int} (h0 : 0 ≤ n) (h1 : n ≤ 9) : 32 ∉ tl (nS n) ∧ tl (nS n) ≠ [] ∧ 10 ∉ tl (nS n) ∧ (nS n).length ≤ 4 ∧ Fine (nS n) := by
  obtain ⟨a, b, c, d⟩ := nS_ok h0 h1
  exact ⟨a, b, c, by omega, nS_fine h0 h1⟩
theorem most_ok {r : PR} (ok : r.Ok) : 32 ∉ tl (mostS r.high) ∧ tl (mostS r.high) ≠ [] ∧ 10 ∉ tl (mostS r.high) ∧ (mostS r.high).length ≤ 4 ∧ Fine (mostS r.high) := by
  cases h : r.high with
  | none => exact lit_ok "none" (by decide +kernel)
  | some x =>
    obtain ⟨h1, h2⟩ := ok.hi x h
    have := ok.l1
    exact num_ok (by omega) (by omega)
theorem hdW_ok {r : PR} (ok : r.Ok) : WsOk (hdW r) where
  ne := by simp [hdW]
  len := by simp [hdW]
  ok := fun w hw => by
    have m1 := ok.m1
    have m2 := ok.m2
    have w1 := ok.w1
    have w2 := ok.w2
    have l1 := ok.l1
    have l2 := ok.l2
    unfold hdW at hw
    simp only [List.mem_cons, List.mem_nil_iff, or_false] at hw
    rcases hw with rfl | rfl | rfl | rfl | rfl
    · exact lit_ok "rule" (by decide +kernel)
    · exact num_ok (by omega) (by omega)
    · exact num_ok (by omega) (by omega)
    · exact num_ok (by omega) (by omega)
    · exact most_ok ok
theorem wlW_ok {r : PR} (ok : r.Ok) {w : List Int} (hw : w ∈ r.rows) : WsOk (wlW w) where
  ne := by simp [wlW]
  len := by
    have := (ok.ws w hw).1
    have := ok.w2
    simp [wlW]
    omega
  ok := fun x hx => by
    have m2 := ok.m2
    unfold wlW at hx
    rcases List.mem_cons.mp hx with rfl | hx
    · exact lit_ok "word" (by decide +kernel)
    · obtain ⟨y, hy, rfl⟩ := List.mem_map.mp hx
      obtain ⟨h1, h2⟩ := (ok.ws w hw).2 y hy
      exact num_ok (by omega) (by omega)
theorem WsOk.join {ws : List Str} (h : WsOk ws) : joinF " " (sD ws) = some (.str (lineS ws)) := (line_ok (by have := h.len; omega) fun w hw => by have := (h.ok w hw).2.2.2.1; omega).1
theorem WsOk.small {ws : List Str} (h : WsOk ws) : (lineS ws).length ≤ 126 := (line_ok (by have := h.len; omega) fun w hw => by have := (h.ok w hw).2.2.2.1; omega).2
def wssOf (r : PR) : List (List Str) := hdW r :: r.rows.map wlW
def linesOf (r : PR) : List Str := (wssOf r).map lineS
theorem wss_ok {r : PR} (ok : r.Ok) : ∀ ws ∈ wssOf r, WsOk ws := fun ws h => by
  rcases List.mem_cons.mp h with rfl | h
  · exact hdW_ok ok
  · obtain ⟨w, hw, rfl⟩ := List.mem_map.mp h
    exact wlW_ok ok hw
theorem nums_lc {el : M D} {i : Nat} {sl : List Mi.Slot} {row : RowS} {w : List Int} (hw : ∀ x ∈ w, 0 ≤ x ∧ x ≤ 9) (hl : w.length ≤ 10) (hno : noOwn sl [i] = true) (h0 : wipeE ⟨sl, row⟩ [i] = ⟨sl, row⟩) (hr : restE ⟨sl, row⟩ ⟨sl, row⟩ [i] = ⟨sl, row⟩) (hi : i < sl.length)
    (hel : ∀ x : Int, el ⟨sl.set i (.val (.int x)), row⟩ = (liftO (strF (.int x))) ⟨sl.set i (.val (.int x)), row⟩) (hwp : ∀ x : Int, wipeE ⟨sl.set i (.val (.int x)), row⟩ [i] = ⟨sl, row⟩) (hg : ∀ x : Int, gN i (.int x) ⟨sl, row⟩ = .ok () ⟨sl.set i (.val (.int x)), row⟩) :
    lcRun (gN i) (pureM true) el [i] (w.map D.int) ⟨sl, row⟩ = .ok (.lst ((w.map nS).map D.str)) ⟨sl, row⟩ := by
  have hc := lc_enc (g := gN i) (t := pureM true) (el := el) (vs := [i]) (e := ⟨sl, row⟩) (e0 := ⟨sl, row⟩) (enc := D.int) (fun _ => true) (fun x => .str (nS x)) hno h0 hr w (by omega) (fun x hx => by
    refine ⟨⟨sl.set i (.val (.int x)), row⟩, hg x, rfl, fun _ => ?_, hwp x⟩
    rw [hel x]
    unfold liftO
    rw [strF_ok (hw x hx).1 (hw x hx).2])
  rw [show w.filter (fun _ => true) = w from List.filter_eq_self.mpr fun _ _ => rfl] at hc
  rw [hc, List.map_map]
  rfl
theorem row_nums {r : PR} (ok : r.Ok) {w : List Int} (hw : w ∈ r.rows) : (∀ x ∈ w, 0 ≤ x ∧ x ≤ 9) ∧ w.length ≤ 10 := by
  obtain ⟨h1, h2⟩ := ok.ws w hw
  have := ok.m2
  have := ok.w2
  exact ⟨fun x hx => ⟨(h2 x hx).1, by have := (h2 x hx).2; omega⟩, by omega⟩
theorem ll_loop {r : PR} (ok : r.Ok) (t m : D) (row : RowS) : ∀ (todo done : List (List Int)), r.rows = done ++ todo → ∀ s3 : Mi.Slot, ∃ s3', forM' (gN 3) b__law_lines_1 (wD todo) ⟨[.val t, .val m, .own (.lst ((hdW r :: done.map wlW).map fun ws => D.str (lineS ws))), s3, .no], row⟩ =
    .ok .nx ⟨[.val t, .val m, .own (.lst ((hdW r :: r.rows.map wlW).map fun ws => D.str (lineS ws))), s3', .no], row⟩
  | [], done, h, s3 => ⟨s3, by rw [h, List.append_nil]; rfl⟩
  | w :: todo, done, h, s3 => by
    have hw : w ∈ r.rows := by rw [h]; simp
    obtain ⟨s3', ih⟩ := ll_loop ok t m row todo (done ++ [w]) (by simp [h]) (.val (iD w))
    refine ⟨s3', ?_⟩
    obtain ⟨hn, hl⟩ := row_nums ok hw
    have hz := ok.sz
    rw [h] at hz
    simp only [List.length_append, List.length_cons] at hz
    have hlc := nums_lc (el := c__law_lines_1) (i := 4) (sl := [.val t, .val m, .own (.lst ((hdW r :: done.map wlW).map fun ws => D.str (lineS ws))), .val (iD w), .no]) (row := row) hn hl rfl rfl rfl (by simp) (fun x => by simp [c__law_lines_1]) (fun x => rfl) (fun x => rfl)
    have hj := (wlW_ok ok hw).join
    have hadd : addF (.lst [.str "word"]) (.lst ((w.map nS).map D.str)) = some (sD (wlW w)) := by
      unfold addF
      simp only
      rw [if_pos (by simp; omega)]
      rfl
    have hsm : ∀ e0 : Mi.Env, small ((hdW r :: done.map wlW).map (fun ws => D.str (lineS ws)) ++ [D.str (lineS (wlW w))]) e0 = .ok () e0 := fun e0 => by
      unfold small
      rw [if_pos]
      rw [List.length_append, List.length_map]
      simp
      omega
    have hend : (hdW r :: done.map wlW).map (fun ws => D.str (lineS ws)) ++ [D.str (lineS (wlW w))] = (hdW r :: (done ++ [w]).map wlW).map (fun ws => D.str (lineS ws)) := by simp
    have hit : itemsD (iD w) = some (w.map D.int) := rfl
    have hod : OD.d (.lst ((w.map nS).map D.str)) = .lst ((w.map nS).map D.str) := rfl
    rw [← hend] at ih
    have hb : bindM (gN 3 (iD w)) (fun _ => b__law_lines_1) ⟨[.val t, .val m, .own (.lst ((hdW r :: done.map wlW).map fun ws => D.str (lineS ws))), s3, .no], row⟩ = .ok .nx ⟨[.val t, .val m, .own (.lst ((hdW r :: done.map wlW).map (fun ws => D.str (lineS ws)) ++ [D.str (lineS (wlW w))])), .val (iD w), .no], row⟩ := by
      generalize (hdW r :: done.map wlW).map (fun ws => D.str (lineS ws)) = acc at *
      generalize sD (wlW w) = wd at *
      generalize iD w = wi at *
      generalize OD.lst ((w.map nS).map D.str) = o at *
      generalize (w.map nS).map D.str = q at *
      generalize w.map D.int = q2 at *
      simp [b__law_lines_1, hit, hlc, hod, hadd, hj, hsm]
    rw [show wD (w :: todo) = iD w :: wD todo from rfl, for_cons hb]
    exact ih
theorem hi_str {r : PR} (ok : r.Ok) (row : RowS) (sl : List Mi.Slot) : (r.high = none ∧ isNF (hD r.high) = some (.bl true)) ∨ (isNF (hD r.high) = some (.bl false) ∧ strF (hD r.high) = some (.str (mostS r.high))) := by
  cases h : r.high with
  | none => exact .inl ⟨rfl, rfl⟩
  | some x =>
    obtain ⟨h1, h2⟩ := ok.hi x h
    have := ok.l1
    exact .inr ⟨rfl, strF_ok (by omega) (by omega)⟩
theorem e_law_lines {r : PR} (ok : r.Ok) (row : RowS) : F__law_lines [r.t] row = .ret (sD (linesOf r)) row := by
  have m1 := ok.m1
  have m2 := ok.m2
  have w1 := ok.w1
  have w2 := ok.w2
  have l1 := ok.l1
  have l2 := ok.l2
  obtain ⟨s3', hl⟩ := ll_loop ok r.t (.str (mostS r.high)) row r.rows [] rfl .no
  have i0 : ixF r.t (.int 0) = some (.int r.many) := rfl
  have i1 : ixF r.t (.int 1) = some (.int r.wide) := rfl
  have i2 : ixF r.t (.int 2) = some (.tup (wD r.rows)) := rfl
  have i3 : ixF r.t (.int 3) = some (.int r.low) := rfl
  have i4 : ixF r.t (.int 4) = some (hD r.high) := rfl
  have t0 := strF_ok (n := r.many) (by omega) (by omega)
  have t1 := strF_ok (n := (r.wide : Int)) (by omega) (by omega)
  have t3 := strF_ok (n := r.low) (by omega) (by omega)
  have hj : joinF " " (.lst [.str "rule", .str (nS r.many), .str (nS r.wide), .str (nS r.low), .str (mostS r.high)]) = some (.str (lineS (hdW r))) := (hdW_ok ok).join
  have hit : itemsD (.tup (wD r.rows)) = some (wD r.rows) := rfl
  have hres : OD.d (.lst ((hdW r :: r.rows.map wlW).map fun ws => D.str (lineS ws))) = sD (linesOf r) := by
    unfold linesOf sD wssOf
    rw [List.map_map]
    rfl
  have hl' : forM' (gN 3) b__law_lines_1 (wD r.rows) ⟨[.val r.t, .val (.str (mostS r.high)), .own (.lst [D.str (lineS (hdW r))]), .no, .no], row⟩ = .ok .nx ⟨[.val r.t, .val (.str (mostS r.high)), .own (.lst ((hdW r :: r.rows.map wlW).map fun ws => D.str (lineS ws))), s3', .no], row⟩ := hl
  clear hl
  generalize (hdW r :: r.rows.map wlW).map (fun ws => D.str (lineS ws)) = res at *
  rcases hi_str ok row [] with ⟨hn, hi⟩ | ⟨hi, hs⟩
  · have hm : mostS r.high = "none" := by rw [hn]; rfl
    rw [hm] at hj hl'
    generalize sD (linesOf r) = fin at *
    generalize r.t = t at *
    generalize lineS (hdW r) = L0 at *
    generalize wD r.rows = rw_ at *
    generalize hD r.high = hh at *
    simp [F__law_lines, fnM_app, m__law_lines, i0, i1, i2, i3, i4, t0, t1, t3, hj, hit, hi, hl', hres]
  · generalize sD (linesOf r) = fin at *
    generalize r.t = t at *
    generalize lineS (hdW r) = L0 at *
    generalize wD r.rows = rw_ at *
    generalize mostS r.high = ms at *
    generalize hD r.high = hh at *
    simp [F__law_lines, fnM_app, m__law_lines, i0, i1, i2, i3, i4, t0, t1, t3, hj, hit, hi, hs, hl', hres]
/-! write -/
end Cut

set_option Elab.async false
set_option linter.all false
set_option maxRecDepth 100000
set_option maxHeartbeats 1000000
/-! P15a: a number in a line of any words; the first line. -/
namespace Cut
open PySem Mi
open L2 (atI ixN atI_nat)
def AllF (ws : List Str) : Prop := ∀ w ∈ ws, Fine w
/-- the number that stands at a place, from one to another -/
def numW (ws : List Str) (k : Nat) (lo hi : Int) : Option Int := match ws[k]? with
  | none => none
  | some x => (rngI lo (hi + 1)).find? fun i => decide (nS i = x)
theorem numW_some {ws : List Str} {k : Nat} {lo hi n : Int} (h : numW ws k lo hi = some n) : ws[k]? = some (nS n) ∧ lo ≤ n ∧ n ≤ hi := by
  unfold numW at h
  cases e : ws[k]? with
  | none => rw [e] at h; cases h
  | some x =>
    rw [e] at h
    have h1 := List.find?_some h
    have h2 := rngI_mem (List.mem_of_find?_eq_some h)
    rw [of_decide_eq_true h1]
    exact ⟨rfl, h2.1, by omega⟩
theorem numW_none {ws : List Str} {k : Nat} {lo hi : Int} (h : numW ws k lo hi = none) : ws[k]? = none ∨ ∃ x, ws[k]? = some x ∧ x ∉ (rngI lo (hi + 1)).map nS := by
  unfold numW at h
  cases e : ws[k]? with
  | none => exact .inl rfl
  | some x =>
    rw [e] at h
    refine .inr ⟨x, rfl, fun hm => ?_⟩
    obtain ⟨i, hi, rfl⟩ := List.mem_map.mp hm
    have := List.find?_eq_none.mp h i hi
    simp at this
theorem numW_in {ws : List Str} {k : Nat} {lo hi : Int} {x : Str} (e : ws[k]? = some x) : decide (x ∈ (rngI lo (hi + 1)).map nS) = (numW ws k lo hi).isSome := by
  cases h : numW ws k lo hi with
  | none =>
    rcases numW_none h with z | ⟨y, hy, z⟩
    · rw [e] at z; cases z
    · rw [e] at hy
      cases hy
      exact decide_eq_false z
  | some n =>
    obtain ⟨h1, h2, h3⟩ := numW_some h
    rw [e] at h1
    cases h1
    refine decide_eq_true (List.mem_map.mpr ⟨n, ?_, rfl⟩)
    unfold rngI
    exact List.mem_map.mpr ⟨(n - lo).toNat, List.mem_range.mpr (by omega), by omega⟩
theorem nums_fine {lo hi : Int} (h0 : 0 ≤ lo) (h3 : hi ≤ 9) : AllF ((rngI lo (hi + 1)).map nS) := fun y hy => by
  obtain ⟨i, hi, rfl⟩ := List.mem_map.mp hy
  obtain ⟨i0, i1⟩ := rngI_mem hi
  exact nS_fine (by omega) (by omega)
theorem rngI_len (lo hi : Int) : (rngI lo hi).length = (hi - lo).toNat := by
  unfold rngI
  rw [List.length_map, List.length_range]
theorem e_num_bad {ws : List Str} (hf : AllF ws) {k : Nat} {low high line : Int} (h0 : 0 ≤ low) (hlh : low ≤ high) (h3 : high ≤ 9) (hn : numW ws k low high = none) (row : RowS) :
    F_number_in [sD ws, .int (k : Int), .int line, .int low, .int high] row = .exc ⟨"BadLine", [("word", .int ((k : Int) + 1)), ("line", .int line)]⟩ row := by
  have hlen2 := len_sD ws
  have hadd1 : addF (.int (k : Int)) (.int 1) = some (.int ((k : Int) + 1)) := rfl
  have hgv : geF (.int (k : Int)) (.int (ws.length : Int)) = some (.bl (decide ((ws.length : Int) ≤ (k : Int)))) := rfl
  rcases numW_none hn with z | ⟨x, hx, hnot⟩
  · have hk : ws.length ≤ k := List.getElem?_eq_none_iff.mp z
    rw [decide_eq_true (by omega)] at hgv
    generalize sD ws = wd at *
    simp [F_number_in, fnM_app, m_number_in, hgv, hlen2, hadd1]
  · have hlen : k < ws.length := (List.getElem?_eq_some_iff.mp hx).1
    rw [decide_eq_false (by omega)] at hgv
    have hc := lc_enc (g := gN 5) (t := pureM true) (el := c_number_in_1) (vs := [5]) (e := ⟨[.val (sD ws), .val (.int (k : Int)), .val (.int line), .val (.int low), .val (.int high), .no], row⟩) (e0 := ⟨[.val (sD ws), .val (.int (k : Int)), .val (.int line), .val (.int low), .val (.int high), .no], row⟩) (enc := D.int) (fun _ => true) (fun i => .str (nS i)) rfl rfl rfl (rngI low (high + 1)) (by rw [rngI_len]; omega) (fun i hi => by
      obtain ⟨i0, i1⟩ := rngI_mem hi
      have hs := strF_ok (n := i) (by omega) (by omega)
      exact ⟨⟨[.val (sD ws), .val (.int (k : Int)), .val (.int line), .val (.int low), .val (.int high), .val (.int i)], row⟩, rfl, rfl, fun _ => by simp [c_number_in_1, hs], rfl⟩)
    rw [← rngL_eq, show (rngI low (high + 1)).filter (fun _ => true) = rngI low (high + 1) from List.filter_eq_self.mpr fun _ _ => rfl] at hc
    have hmap : (rngI low (high + 1)).map (fun i => D.str (nS i)) = ((rngI low (high + 1)).map nS).map D.str := by rw [List.map_map]; rfl
    rw [hmap] at hc
    have hr : range2D [.int low, .int (high + 1)] = some (rngL low (high + 1)) := range2_ok (okI_small (by omega) (by omega)) (okI_small (by omega) (by omega))
    have hin := notin_s (x := x) (l := (rngI low (high + 1)).map nS) (hf x (List.mem_of_getElem? hx)) (nums_fine h0 h3)
    rw [decide_eq_false hnot] at hin
    have hix := ix_sD hx
    unfold sD at hin
    generalize rngL low (high + 1) = rl at *
    generalize ((rngI low (high + 1)).map nS).map D.str = sl at *
    generalize sD ws = wd at *
    have hadd : addF (.int high) (.int 1) = some (.int (high + 1)) := rfl
    simp [F_number_in, fnM_app, m_number_in, hgv, hlen2, hadd, hadd1, hc, hr, hin, hix, OD.d]
theorem e_num_ok {ws : List Str} {k : Nat} {low high n line : Int} (h0 : 0 ≤ low) (h3 : high ≤ 9) (hn : numW ws k low high = some n) (row : RowS) : F_number_in [sD ws, .int (k : Int), .int line, .int low, .int high] row = .ret (.int n) row := by
  obtain ⟨h1, h2, h4⟩ := numW_some hn
  exact e_number_in (by intro z; cases z) h1 h0 h2 h4 h3 row
/-! the law's own look at a word -/
theorem e_law_bad {ws : List Str} (hf : AllF ws) {k : Nat} {low high : Int} (h0 : 0 ≤ low) (hlh : low ≤ high) (h3 : high ≤ 9) (row : RowS) : F__law_bad [sD ws, .int (k : Int), .int low, .int high] row = .ret (.bl (numW ws k low high).isNone) row := by
  have hlen2 := len_sD ws
  have hle : ordF .le (.int (ws.length : Int)) (.int (k : Int)) = some (.bl (decide ((ws.length : Int) ≤ (k : Int)))) := rfl
  cases e : ws[k]? with
  | none =>
    have hk : ws.length ≤ k := List.getElem?_eq_none_iff.mp e
    have hn : numW ws k low high = none := by unfold numW; rw [e]
    rw [decide_eq_true (by omega)] at hle
    rw [hn]
    generalize sD ws = wd at *
    simp [F__law_bad, fnM_app, m__law_bad, hlen2, hle]
  | some x =>
    have hlen : k < ws.length := (List.getElem?_eq_some_iff.mp e).1
    rw [decide_eq_false (by omega)] at hle
    have hc := lc_enc (g := gN 4) (t := pureM true) (el := c__law_bad_1) (vs := [4]) (e := ⟨[.val (sD ws), .val (.int (k : Int)), .val (.int low), .val (.int high), .no], row⟩) (e0 := ⟨[.val (sD ws), .val (.int (k : Int)), .val (.int low), .val (.int high), .no], row⟩) (enc := D.int) (fun _ => true) (fun i => .str (nS i)) rfl rfl rfl (rngI low (high + 1)) (by rw [rngI_len]; omega) (fun i hi => by
      obtain ⟨i0, i1⟩ := rngI_mem hi
      have hs := strF_ok (n := i) (by omega) (by omega)
      exact ⟨⟨[.val (sD ws), .val (.int (k : Int)), .val (.int low), .val (.int high), .val (.int i)], row⟩, rfl, rfl, fun _ => by simp [c__law_bad_1, hs], rfl⟩)
    rw [← rngL_eq, show (rngI low (high + 1)).filter (fun _ => true) = rngI low (high + 1) from List.filter_eq_self.mpr fun _ _ => rfl] at hc
    have hmap : (rngI low (high + 1)).map (fun i => D.str (nS i)) = ((rngI low (high + 1)).map nS).map D.str := by rw [List.map_map]; rfl
    rw [hmap] at hc
    have hr : range2D [.int low, .int (high + 1)] = some (rngL low (high + 1)) := range2_ok (okI_small (by omega) (by omega)) (okI_small (by omega) (by omega))
    have hin := notin_s (x := x) (l := (rngI low (high + 1)).map nS) (hf x (List.mem_of_getElem? e)) (nums_fine h0 h3)
    rw [numW_in e] at hin
    have hix := ix_sD e
    have hno : (numW ws k low high).isNone = !(numW ws k low high).isSome := by cases numW ws k low high <;> rfl
    rw [hno]
    unfold sD at hin
    generalize (numW ws k low high).isSome = z at *
    generalize rngL low (high + 1) = rl at *
    generalize ((rngI low (high + 1)).map nS).map D.str = sl at *
    generalize sD ws = wd at *
    have hadd : addF (.int high) (.int 1) = some (.int (high + 1)) := rfl
    simp [F__law_bad, fnM_app, m__law_bad, hlen2, hle, hadd, hc, hr, hin, hix, OD.d]
/-! the first line -/
abbrev Hd15 : Type := Int × Int × Int × Option Int
def headP (ws : List Str) : Sum Int Hd15 := if ws[0]? ≠ some ("rule" : Str) then .inl 1 else match numW ws 1 2 3 with
  | none => .inl 2
  | some a => match numW ws 2 1 3 with
    | none => .inl 3
    | some b => match numW ws 3 1 6 with
      | none => .inl 4
      | some c => match (if ws[4]? = some ("none" : Str) then some none else (numW ws 4 c 8).map some) with
        | none => .inl 5
        | some d => if 5 < ws.length then .inl 6 else .inr (a, b, c, d)
theorem cut_one (ws : List Str) (k : Nat) : cutF (sD ws) (some (k : Int)) (some ((k : Int) + 1)) = some (sD ws[k]?.toList) := by
  show some (D.lst (cutD _ _ _)) = _
  refine congrArg some (congrArg D.lst ?_)
  unfold cutD
  rw [HT.sIx_nat, show ((k : Int) + 1) = ((k + 1 : Nat) : Int) by omega, HT.sIx_nat]
  rw [List.length_map]
  by_cases h : k < ws.length
  · rw [Nat.min_eq_left (by omega), Nat.min_eq_left (by omega), List.getElem?_eq_getElem h]
    have : k + 1 - k = 1 := by omega
    rw [this]
    rw [← List.map_drop, ← List.map_take, List.drop_eq_getElem_cons h]
    rfl
  · rw [List.getElem?_eq_none (by omega)]
    have : min (k + 1) ws.length - min k ws.length = 0 := by omega
    rw [this]
    rfl
theorem cut_head (ws : List Str) : cutF (sD ws) none (some 1) = some (sD ws[0]?.toList) := by
  have h := cut_one ws 0
  have e : cutF (sD ws) none (some 1) = cutF (sD ws) (some ((0 : Nat) : Int)) (some (((0 : Nat) : Int) + 1)) := by
    show some (D.lst (cutD _ _ _)) = some (D.lst (cutD _ _ _))
    refine congrArg some (congrArg D.lst ?_)
    unfold cutD
    rw [HT.sIx_nat]
    rfl
  rw [e, h]
theorem opt_one {o : Option Str} {x : Str} : decide (o.toList = [x]) = decide (o = some x) := by
  refine decide_eq_decide.mpr ?_
  cases o <;> simp
theorem optF {ws : List Str} (hf : AllF ws) (k : Nat) : AllF ws[k]?.toList := fun w hw => by
  cases e : ws[k]? with
  | none => rw [e] at hw; cases hw
  | some y =>
    rw [e] at hw
    rw [List.mem_singleton.mp hw]
    exact hf y (List.mem_of_getElem? e)
theorem ne_one {ws : List Str} (hf : AllF ws) (k : Nat) {x : Str} (hx : Fine x) : neF (sD ws[k]?.toList) (.lst [.str x]) = some (.bl (!decide (ws[k]? = some x))) := by
  have := ne_sD (l := ws[k]?.toList) (m := [x]) (optF hf k) (fun y hy => by rw [List.mem_singleton.mp hy]; exact hx)
  rw [opt_one] at this
  exact this
theorem eq_one {ws : List Str} (hf : AllF ws) (k : Nat) {x : Str} (hx : Fine x) : eqF (sD ws[k]?.toList) (.lst [.str x]) = some (.bl (decide (ws[k]? = some x))) := by
  have := eq_sD (l := ws[k]?.toList) (m := [x]) (optF hf k) (fun y hy => by rw [List.mem_singleton.mp hy]; exact hx)
  rw [opt_one] at this
  exact this
def bad15 (f line : Int) : Exn := ⟨"BadLine", [("word", .int f), ("line", .int line)]⟩
def hdD (h : Hd15) : D := .tup [.int h.1, .int h.2.1, .int h.2.2.1, hD h.2.2.2]
theorem gt_len (n : Nat) (k : Int) : ordF .gt (.int (n : Int)) (.int k) = some (.bl (decide (k < (n : Int)))) := rfl
section
noncomputable section
def HIq1 : M Fl := (iteM (testM (op2M (mapM' (sliceM (refM 0) (pureM none) (partM (pureM (.int 1)))) Ref.val) (mapM' (giveM (lstM (consM (pureM (.str "rule")) (pureM [])))) Ref.val) neF))
      (raiseXM "BadLine" ["line", "word"] (consM (pureM (.int 1)) (consM (pureM (.int 1)) (pureM []))))
      (nxM))
def HIq2 : M Fl := (parM [3, 4] (consV (callM F_number_in (consM (readM 0) (consM (pureM (.int 1)) (consM (pureM (.int 1)) (consM (pureM (.int 2)) (consM (pureM (.int 3)) (pureM []))))))) (consV (callM F_number_in (consM (readM 0) (consM (pureM (.int 2)) (consM (pureM (.int 1)) (consM (pureM (.int 1)) (consM (pureM (.int 3)) (pureM []))))))) (pureM []))))
def HIq3 : M Fl := (asgM 1 (callM F_number_in (consM (readM 0) (consM (pureM (.int 3)) (consM (pureM (.int 1)) (consM (pureM (.int 1)) (consM (pureM (.int 6)) (pureM []))))))))
def HIq4 : M Fl := (asgM 2 (iteM (testM (op2M (mapM' (sliceM (refM 0) (partM (pureM (.int 4))) (partM (pureM (.int 5)))) Ref.val) (mapM' (giveM (lstM (consM (pureM (.str "none")) (pureM [])))) Ref.val) eqF)) (pureM .non) (callM F_number_in (consM (readM 0) (consM (pureM (.int 4)) (consM (pureM (.int 1)) (consM (readM 1) (consM (pureM (.int 8)) (pureM [])))))))))
def HIq5 : M Fl := (iteM (testM (op2M (mapM' (op1M (refM 0) lenF) Ref.val) (mapM' (pureM (.int 5)) Ref.val) (ordF .gt)))
      (raiseXM "BadLine" ["line", "word"] (consM (pureM (.int 1)) (consM (pureM (.int 6)) (pureM []))))
      (nxM))
def HIq6 : M Fl := (retM (tupM (consM (readM 3) (consM (readM 4) (consM (readM 1) (consM (readM 2) (pureM [])))))))
theorem HIq_eq : m_head_in = seqM HIq1 (seqM HIq2 (seqM HIq3 (seqM HIq4 (seqM HIq5 HIq6)))) := rfl
end
theorem exc_ok {a b : M Fl} {e e1 : Mi.Env} {x : Exn} (h : a e = .exc x e1) : seqM a b e = .exc x e1 := by
  rw [seqM_app, h]
  rfl
theorem rt_ok15 {a b : M Fl} {e e1 : Mi.Env} {v : D} (h : a e = .ok (.rt v) e1) : seqM a b e = .ok (.rt v) e1 := by
  rw [seqM_app, h]
  rfl
theorem fn_exc {k : Nat} {m : M Fl} {ds : List D} {row : RowS} {x : Exn} {e : Mi.Env} (h : m ⟨ds.map Mi.Slot.val ++ List.replicate k .no, row⟩ = .exc x e) (hr : e.row = row) : fnM k m ds row = .exc x row := by
  rw [fnM_app, h, ← hr]
  rfl
theorem fn_ret {k : Nat} {m : M Fl} {ds : List D} {row : RowS} {d : D} {e : Mi.Env} (h : m ⟨ds.map Mi.Slot.val ++ List.replicate k .no, row⟩ = .ok (.rt d) e) (hr : e.row = row) : fnM k m ds row = .ret d row := by
  rw [fnM_app, h, ← hr]
  rfl
abbrev H15 (wd : D) (s1 s2 s3 s4 : Mi.Slot) (row : RowS) : Mi.Env := ⟨[.val wd, s1, s2, s3, s4], row⟩
theorem e_head {ws : List Str} (hf : AllF ws) (row : RowS) : F_head_in [sD ws] row = match headP ws with
    | .inl f => .exc (bad15 f 1) row
    | .inr h => .ret (hdD h) row := by
  have c1 := cut_head ws
  have c2 : cutF (sD ws) (some 4) (some 5) = some (sD ws[4]?.toList) := cut_one ws 4
  have n1 := ne_one hf 0 fine_rule
  have q4 := eq_one hf 4 fine_none
  have hlen := len_sD ws
  have g5 := gt_len ws.length 5
  have hx : ∀ {f : Int} {e : Mi.Env}, m_head_in (H15 (sD ws) .no .no .no .no row) = .exc (bad15 f 1) e → e.row = row → F_head_in [sD ws] row = .exc (bad15 f 1) row := fun h hr => fn_exc h hr
  unfold headP
  by_cases r0 : ws[0]? = some ("rule" : Str)
  · simp only [r0, decide_true, Bool.not_true] at n1
    rw [if_neg (by simp [r0])]
    have p1 : HIq1 (H15 (sD ws) .no .no .no .no row) = .ok .nx (H15 (sD ws) .no .no .no .no row) := by
      rw [r0] at c1
      generalize sD (some ("rule" : Str)).toList = w0 at *
      generalize sD ws = wd at *
      simp [HIq1, c1, n1]
    cases e1 : numW ws 1 2 3 with
    | none =>
      have b1 : F_number_in [sD ws, .int 1, .int 1, .int 2, .int 3] row = .exc (bad15 2 1) row := e_num_bad hf (k := 1) (by decide) (by decide) (by decide) e1 row
      have p2 : HIq2 (H15 (sD ws) .no .no .no .no row) = .exc (bad15 2 1) (H15 (sD ws) .no .no .no .no row) := by
        generalize sD ws = wd at *
        generalize bad15 2 1 = bx at *
        simp [HIq2, b1]
      exact hx (by rw [HIq_eq, seq_ok p1]; exact exc_ok p2) rfl
    | some a =>
      have o1 : F_number_in [sD ws, .int 1, .int 1, .int 2, .int 3] row = .ret (.int a) row := e_num_ok (k := 1) (by decide) (by decide) e1 row
      cases e2 : numW ws 2 1 3 with
      | none =>
        have b1 : F_number_in [sD ws, .int 2, .int 1, .int 1, .int 3] row = .exc (bad15 3 1) row := e_num_bad hf (k := 2) (by decide) (by decide) (by decide) e2 row
        have p2 : HIq2 (H15 (sD ws) .no .no .no .no row) = .exc (bad15 3 1) (H15 (sD ws) .no .no .no .no row) := by
          generalize sD ws = wd at *
          generalize bad15 3 1 = bx at *
          simp [HIq2, o1, b1]
        exact hx (by rw [HIq_eq, seq_ok p1]; exact exc_ok p2) rfl
      | some b =>
        have o2 : F_number_in [sD ws, .int 2, .int 1, .int 1, .int 3] row = .ret (.int b) row := e_num_ok (k := 2) (by decide) (by decide) e2 row
        have p2 : HIq2 (H15 (sD ws) .no .no .no .no row) = .ok .nx (H15 (sD ws) .no .no (.val (.int a)) (.val (.int b)) row) := by
          generalize sD ws = wd at *
          simp [HIq2, o1, o2]
        cases e3 : numW ws 3 1 6 with
        | none =>
          have b1 : F_number_in [sD ws, .int 3, .int 1, .int 1, .int 6] row = .exc (bad15 4 1) row := e_num_bad hf (k := 3) (by decide) (by decide) (by decide) e3 row
          have p3 : HIq3 (H15 (sD ws) .no .no (.val (.int a)) (.val (.int b)) row) = .exc (bad15 4 1) (H15 (sD ws) .no .no (.val (.int a)) (.val (.int b)) row) := by
            generalize sD ws = wd at *
            generalize bad15 4 1 = bx at *
            simp [HIq3, b1]
          exact hx (by rw [HIq_eq, seq_ok p1, seq_ok p2]; exact exc_ok p3) rfl
        | some c =>
          have o3 : F_number_in [sD ws, .int 3, .int 1, .int 1, .int 6] row = .ret (.int c) row := e_num_ok (k := 3) (by decide) (by decide) e3 row
          obtain ⟨_, c0, c6⟩ := numW_some e3
          have p3 : HIq3 (H15 (sD ws) .no .no (.val (.int a)) (.val (.int b)) row) = .ok .nx (H15 (sD ws) (.val (.int c)) .no (.val (.int a)) (.val (.int b)) row) := by
            generalize sD ws = wd at *
            simp [HIq3, o3]
          have tail : ∀ d : Option Int, HIq4 (H15 (sD ws) (.val (.int c)) .no (.val (.int a)) (.val (.int b)) row) = .ok .nx (H15 (sD ws) (.val (.int c)) (.val (hD d)) (.val (.int a)) (.val (.int b)) row) → F_head_in [sD ws] row = match (if 5 < ws.length then Sum.inl (6 : Int) else Sum.inr (a, b, c, d) : Sum Int Hd15) with
              | .inl f => .exc (bad15 f 1) row
              | .inr h => .ret (hdD h) row := fun d p4 => by
            by_cases l5 : 5 < ws.length
            · rw [if_pos l5]
              rw [decide_eq_true (by omega)] at g5
              have p5 : HIq5 (H15 (sD ws) (.val (.int c)) (.val (hD d)) (.val (.int a)) (.val (.int b)) row) = .exc (bad15 6 1) (H15 (sD ws) (.val (.int c)) (.val (hD d)) (.val (.int a)) (.val (.int b)) row) := by
                unfold bad15
                generalize hD d = dd at *
                generalize (ws.length : Int) = nn at *
                generalize sD ws = wd at *
                simp [HIq5, hlen, g5]
              exact hx (by rw [HIq_eq, seq_ok p1, seq_ok p2, seq_ok p3, seq_ok p4]; exact exc_ok p5) rfl
            · rw [if_neg l5]
              rw [decide_eq_false (by omega)] at g5
              have p5 : HIq5 (H15 (sD ws) (.val (.int c)) (.val (hD d)) (.val (.int a)) (.val (.int b)) row) = .ok .nx (H15 (sD ws) (.val (.int c)) (.val (hD d)) (.val (.int a)) (.val (.int b)) row) := by
                generalize hD d = dd at *
                generalize (ws.length : Int) = nn at *
                generalize sD ws = wd at *
                simp [HIq5, hlen, g5]
              have p6 : HIq6 (H15 (sD ws) (.val (.int c)) (.val (hD d)) (.val (.int a)) (.val (.int b)) row) = .ok (.rt (hdD (a, b, c, d))) (H15 (sD ws) (.val (.int c)) (.val (hD d)) (.val (.int a)) (.val (.int b)) row) := by
                unfold hdD
                simp only
                generalize hD d = dd at *
                generalize sD ws = wd at *
                simp [HIq6]
              refine fn_ret (e := H15 (sD ws) (.val (.int c)) (.val (hD d)) (.val (.int a)) (.val (.int b)) row) ?_ rfl
              show m_head_in (H15 (sD ws) .no .no .no .no row) = _
              rw [HIq_eq, seq_ok p1, seq_ok p2, seq_ok p3, seq_ok p4, seq_ok p5]
              exact p6
          by_cases h4 : ws[4]? = some ("none" : Str)
          · dsimp only
            rw [if_pos h4]
            refine tail none ?_
            rw [h4] at c2 q4
            simp only [decide_true] at q4
            show _ = Res.ok Fl.nx (H15 (sD ws) _ (.val .non) _ _ row)
            generalize sD (some ("none" : Str)).toList = w4 at *
            generalize sD ws = wd at *
            simp [HIq4, c2, q4]
          · dsimp only
            rw [if_neg h4]
            simp only [h4, decide_false] at q4
            cases e4 : numW ws 4 c 8 with
            | none =>
              have b1 : F_number_in [sD ws, .int 4, .int 1, .int c, .int 8] row = .exc (bad15 5 1) row := e_num_bad hf (k := 4) (by omega) (by omega) (by decide) e4 row
              have p4 : HIq4 (H15 (sD ws) (.val (.int c)) .no (.val (.int a)) (.val (.int b)) row) = .exc (bad15 5 1) (H15 (sD ws) (.val (.int c)) .no (.val (.int a)) (.val (.int b)) row) := by
                generalize sD ws[4]?.toList = w4 at *
                generalize sD ws = wd at *
                generalize bad15 5 1 = bx at *
                simp [HIq4, c2, q4, b1]
              exact hx (by rw [HIq_eq, seq_ok p1, seq_ok p2, seq_ok p3]; exact exc_ok p4) rfl
            | some d =>
              have o4 : F_number_in [sD ws, .int 4, .int 1, .int c, .int 8] row = .ret (.int d) row := e_num_ok (k := 4) (by omega) (by decide) e4 row
              refine tail (some d) ?_
              show _ = Res.ok Fl.nx (H15 (sD ws) _ (.val (.int d)) _ _ row)
              generalize sD ws[4]?.toList = w4 at *
              generalize sD ws = wd at *
              simp [HIq4, c2, q4, o4]
  · rw [if_pos r0]
    simp only [r0, decide_false, Bool.not_false] at n1
    have p1 : HIq1 (H15 (sD ws) .no .no .no .no row) = .exc (bad15 1 1) (H15 (sD ws) .no .no .no .no row) := by
      unfold bad15
      generalize sD ws[0]?.toList = w0 at *
      generalize sD ws = wd at *
      simp [HIq1, c1, n1]
    exact hx (by rw [HIq_eq]; exact exc_ok p1) rfl
end
end Cut

set_option Elab.async false
set_option linter.all false
set_option maxRecDepth 100000
set_option maxHeartbeats 1000000
/-! P15b: the law's own look at a line; a line of a word. -/
namespace Cut
open PySem Mi
open L2 (atI ixN atI_nat)
noncomputable section
def LFq1 : M Fl := (iteM (orT (testM (op2M (refM 0) (mapM' (giveM (lstM (pureM []))) Ref.val) eqF)) (testM (op2M (mapM' (op2M (refM 0) (mapM' (pureM (.int 0)) Ref.val) ixF) Ref.val) (mapM' (pureM (.str "rule")) Ref.val) neF)))
      (retM (pureM (.int 1)))
      (nxM))
def LFq2 : M Fl := (iteM (testM (callM F__law_bad (consM (readM 0) (consM (pureM (.int 1)) (consM (pureM (.int 2)) (consM (pureM (.int 3)) (pureM [])))))))
      (retM (pureM (.int 2)))
      (nxM))
def LFq3 : M Fl := (iteM (testM (callM F__law_bad (consM (readM 0) (consM (pureM (.int 2)) (consM (pureM (.int 1)) (consM (pureM (.int 3)) (pureM [])))))))
      (retM (pureM (.int 3)))
      (nxM))
def LFq4 : M Fl := (iteM (testM (callM F__law_bad (consM (readM 0) (consM (pureM (.int 3)) (consM (pureM (.int 1)) (consM (pureM (.int 6)) (pureM [])))))))
      (retM (pureM (.int 4)))
      (nxM))
def LFq5 : M Fl := (iteM (andT (testM (callM F__law_bad (consM (readM 0) (consM (pureM (.int 4)) (consM (op1M (mapM' (op2M (refM 0) (mapM' (pureM (.int 3)) Ref.val) ixF) Ref.val) intTF) (consM (pureM (.int 8)) (pureM []))))))) (testM (op2M (mapM' (sliceM (refM 0) (partM (pureM (.int 4))) (partM (pureM (.int 5)))) Ref.val) (mapM' (giveM (lstM (consM (pureM (.str "none")) (pureM [])))) Ref.val) neF)))
      (retM (pureM (.int 5)))
      (nxM))
def LFq6 : M Fl := (retM (iteM (testM (op2M (mapM' (op1M (refM 0) lenF) Ref.val) (mapM' (pureM (.int 5)) Ref.val) (ordF .gt))) (pureM (.int 6)) (pureM .non)))
theorem LFq_eq : m__law_first = seqM LFq1 (seqM LFq2 (seqM LFq3 (seqM LFq4 (seqM LFq5 LFq6)))) := rfl
def WIq1 : M Fl := (iteM (testM (op2M (mapM' (sliceM (refM 0) (pureM none) (partM (pureM (.int 1)))) Ref.val) (mapM' (giveM (lstM (consM (pureM (.str "word")) (pureM [])))) Ref.val) neF))
      (raiseXM "BadLine" ["line", "word"] (consM (readM 1) (consM (pureM (.int 1)) (pureM []))))
      (nxM))
def WIq2 : M Fl := (asgM 4 (op1M (mapM' (giveM (lcMX (listM (consM (pureM (.int 1)) (consM (op2M (refM 3) (mapM' (pureM (.int 1)) Ref.val) addF) (pureM []))) range2D) (gN 5) (pureM true) (c_word_in_1) [5])) Ref.val) tupleF))
def WIq3 : M Fl := (iteM (testM (op2M (mapM' (op1M (refM 0) lenF) Ref.val) (mapM' (op2M (refM 3) (mapM' (pureM (.int 1)) Ref.val) addF) Ref.val) (ordF .gt)))
      (raiseXM "BadLine" ["line", "word"] (consM (readM 1) (consM (op2M (refM 3) (mapM' (pureM (.int 2)) Ref.val) addF) (pureM []))))
      (nxM))
def WIq4 : M Fl := (retM (readM 4))
theorem WIq_eq : m_word_in = seqM WIq1 (seqM WIq2 (seqM WIq3 WIq4)) := rfl
def LTq1 : M Fl := (iteM (orT (testM (op2M (refM 0) (mapM' (giveM (lstM (pureM []))) Ref.val) eqF)) (testM (op2M (mapM' (op2M (refM 0) (mapM' (pureM (.int 0)) Ref.val) ixF) Ref.val) (mapM' (pureM (.str "word")) Ref.val) neF)))
      (retM (pureM (.int 1)))
      (nxM))
def LTq2 : M Fl := (forL (listM (consM (pureM (.int 1)) (consM (op2M (refM 2) (mapM' (pureM (.int 1)) Ref.val) addF) (pureM []))) range2D) (gN 4)
      (b__law_fault_1))
def LTq3 : M Fl := (iteM (testM (op2M (mapM' (op1M (refM 0) lenF) Ref.val) (mapM' (op2M (refM 2) (mapM' (pureM (.int 1)) Ref.val) addF) Ref.val) (ordF .gt)))
      (retM (op2M (refM 2) (mapM' (pureM (.int 2)) Ref.val) addF))
      (nxM))
def LTq4 : M Fl := (retM (iteM (andT (testM (op1M (refM 3) notNF)) (testM (op2M (mapM' (op1M (mapM' (giveM (lcM (walkM (sliceM (refM 0) (partM (pureM (.int 1))) (pureM none))) (gN 5) (pureM true) (c__law_fault_1) [5])) Ref.val) tupleF) Ref.val) (refM 3) (ordF .le)))) (pureM (.int 0)) (pureM .non)))
theorem LTq_eq : m__law_fault = seqM LTq1 (seqM LTq2 (seqM LTq3 LTq4)) := rfl

theorem int_nS {n : Int} (h0 : 0 ≤ n) (h1 : n ≤ 9) : intTF (.str (nS n)) = some (.int n) := by
  unfold intTF
  simp only [nS_int h0 h1]
  rw [if_pos (by rw [(nS_ok h0 h1).2.2.2]; decide)]
/-- whether a line begins with a word -/
theorem begin15 {ws : List Str} (hf : AllF ws) {x : Str} (hx : Fine x) : (ws = [] ∧ eqF (sD ws) (.lst []) = some (.bl true) ∧ ws[0]? ≠ some x) ∨ (∃ y, ws[0]? = some y ∧ eqF (sD ws) (.lst []) = some (.bl false) ∧ ixF (sD ws) (.int 0) = some (.str y) ∧ neF (.str y) (.str x) = some (.bl (!decide (ws[0]? = some x)))) := by
  have h := eq_sD (l := ws) (m := []) hf (fun y hy => by cases hy)
  cases ws with
  | nil => exact .inl ⟨rfl, h, by simp⟩
  | cons y l =>
    refine .inr ⟨y, rfl, h, ix_sD (k := 0) rfl, ?_⟩
    have := ne_s (hf y List.mem_cons_self) hx
    rw [this]
    simp
def rsD : Sum Int Hd15 → D
  | .inl f => .int f
  | .inr _ => .non
theorem e_law_first {ws : List Str} (hf : AllF ws) (row : RowS) : F__law_first [sD ws] row = .ret (rsD (headP ws)) row := by
  have hr : ∀ {d : D}, m__law_first ⟨[.val (sD ws)], row⟩ = .ok (.rt d) ⟨[.val (sD ws)], row⟩ → F__law_first [sD ws] row = .ret d row := fun h => fn_ret h rfl
  have p1 : LFq1 ⟨[.val (sD ws)], row⟩ = (if ws[0]? = some ("rule" : Str) then .ok .nx ⟨[.val (sD ws)], row⟩ else .ok (.rt (.int 1)) ⟨[.val (sD ws)], row⟩) := by
    rcases begin15 hf fine_rule with ⟨_, h1, h2⟩ | ⟨y, h0, h1, h2, h3⟩
    · rw [if_neg h2]
      generalize sD ws = wd at *
      simp [LFq1, h1]
    · by_cases c : ws[0]? = some ("rule" : Str)
      · rw [if_pos c]
        simp only [c, decide_true, Bool.not_true] at h3
        generalize sD ws = wd at *
        simp [LFq1, h1, h2, h3]
      · rw [if_neg c]
        simp only [c, decide_false, Bool.not_false] at h3
        generalize sD ws = wd at *
        simp [LFq1, h1, h2, h3]
  have b1 := e_law_bad hf (k := 1) (low := 2) (high := 3) (by decide) (by decide) (by decide) row
  have b2 := e_law_bad hf (k := 2) (low := 1) (high := 3) (by decide) (by decide) (by decide) row
  have b3 := e_law_bad hf (k := 3) (low := 1) (high := 6) (by decide) (by decide) (by decide) row
  have hlen := len_sD ws
  have g5 := gt_len ws.length 5
  unfold headP
  by_cases r0 : ws[0]? = some ("rule" : Str)
  · rw [if_pos r0] at p1
    rw [if_neg (by simp [r0])]
    cases e1 : numW ws 1 2 3 with
    | none =>
      rw [e1] at b1
      have p2 : LFq2 ⟨[.val (sD ws)], row⟩ = .ok (.rt (.int 2)) ⟨[.val (sD ws)], row⟩ := by
        generalize sD ws = wd at *
        have b1 : F__law_bad [wd, .int 1, .int 2, .int 3] row = .ret (.bl true) row := b1
        simp [LFq2, b1]
      exact hr (by rw [LFq_eq, seq_ok p1]; exact rt_ok15 p2)
    | some a =>
      rw [e1] at b1
      have p2 : LFq2 ⟨[.val (sD ws)], row⟩ = .ok .nx ⟨[.val (sD ws)], row⟩ := by
        generalize sD ws = wd at *
        have b1 : F__law_bad [wd, .int 1, .int 2, .int 3] row = .ret (.bl false) row := b1
        simp [LFq2, b1]
      cases e2 : numW ws 2 1 3 with
      | none =>
        rw [e2] at b2
        have p3 : LFq3 ⟨[.val (sD ws)], row⟩ = .ok (.rt (.int 3)) ⟨[.val (sD ws)], row⟩ := by
          generalize sD ws = wd at *
          have b2 : F__law_bad [wd, .int 2, .int 1, .int 3] row = .ret (.bl true) row := b2
          simp [LFq3, b2]
        exact hr (by rw [LFq_eq, seq_ok p1, seq_ok p2]; exact rt_ok15 p3)
      | some b =>
        rw [e2] at b2
        have p3 : LFq3 ⟨[.val (sD ws)], row⟩ = .ok .nx ⟨[.val (sD ws)], row⟩ := by
          generalize sD ws = wd at *
          have b2 : F__law_bad [wd, .int 2, .int 1, .int 3] row = .ret (.bl false) row := b2
          simp [LFq3, b2]
        cases e3 : numW ws 3 1 6 with
        | none =>
          rw [e3] at b3
          have p4 : LFq4 ⟨[.val (sD ws)], row⟩ = .ok (.rt (.int 4)) ⟨[.val (sD ws)], row⟩ := by
            generalize sD ws = wd at *
            have b3 : F__law_bad [wd, .int 3, .int 1, .int 6] row = .ret (.bl true) row := b3
            simp [LFq4, b3]
          exact hr (by rw [LFq_eq, seq_ok p1, seq_ok p2, seq_ok p3]; exact rt_ok15 p4)
        | some c =>
          rw [e3] at b3
          have p4 : LFq4 ⟨[.val (sD ws)], row⟩ = .ok .nx ⟨[.val (sD ws)], row⟩ := by
            generalize sD ws = wd at *
            have b3 : F__law_bad [wd, .int 3, .int 1, .int 6] row = .ret (.bl false) row := b3
            simp [LFq4, b3]
          obtain ⟨h3, c0, c6⟩ := numW_some e3
          have i3 : ixF (sD ws) (.int 3) = some (.str (nS c)) := ix_sD (k := 3) h3
          have t3 := int_nS (n := c) (by omega) (by omega)
          have b4 := e_law_bad hf (k := 4) (low := c) (high := 8) (by omega) (by omega) (by decide) row
          have c4 : cutF (sD ws) (some 4) (some 5) = some (sD ws[4]?.toList) := cut_one ws 4
          have q4 := ne_one hf 4 fine_none
          have p5 : LFq5 ⟨[.val (sD ws)], row⟩ = (if (numW ws 4 c 8).isNone = true ∧ ws[4]? ≠ some ("none" : Str) then .ok (.rt (.int 5)) ⟨[.val (sD ws)], row⟩ else .ok .nx ⟨[.val (sD ws)], row⟩) := by
            have b4 : F__law_bad [sD ws, .int 4, .int c, .int 8] row = .ret (.bl (numW ws 4 c 8).isNone) row := b4
            by_cases z : (numW ws 4 c 8).isNone = true
            · by_cases y : ws[4]? = some ("none" : Str)
              · rw [if_neg fun x => x.2 y]
                rw [z] at b4
                rw [y] at c4 q4
                simp only [decide_true, Bool.not_true] at q4
                generalize sD (some ("none" : Str)).toList = w4 at *
                generalize sD ws = wd at *
                simp [LFq5, i3, t3, b4, c4, q4]
              · rw [if_pos ⟨z, y⟩]
                rw [z] at b4
                simp only [y, decide_false, Bool.not_false] at q4
                generalize sD ws[4]?.toList = w4 at *
                generalize sD ws = wd at *
                simp [LFq5, i3, t3, b4, c4, q4]
            · rw [if_neg fun x => z x.1]
              have z' : (numW ws 4 c 8).isNone = false := by
                cases hh : (numW ws 4 c 8).isNone with
                | true => exact absurd hh z
                | false => rfl
              rw [z'] at b4
              generalize sD ws = wd at *
              simp [LFq5, i3, t3, b4]
          have fin : LFq5 ⟨[.val (sD ws)], row⟩ = .ok .nx ⟨[.val (sD ws)], row⟩ → ∀ d : Option Int, F__law_first [sD ws] row = .ret (rsD (if 5 < ws.length then .inl 6 else .inr (a, b, c, d))) row := fun q d => by
            refine hr ?_
            rw [LFq_eq, seq_ok p1, seq_ok p2, seq_ok p3, seq_ok p4, seq_ok q]
            by_cases l5 : 5 < ws.length
            · rw [if_pos l5]
              rw [decide_eq_true (by omega)] at g5
              generalize (ws.length : Int) = nn at *
              generalize sD ws = wd at *
              simp [LFq6, hlen, g5, rsD]
            · rw [if_neg l5]
              rw [decide_eq_false (by omega)] at g5
              generalize (ws.length : Int) = nn at *
              generalize sD ws = wd at *
              simp [LFq6, hlen, g5, rsD]
          dsimp only
          by_cases h4 : ws[4]? = some ("none" : Str)
          · rw [if_pos h4]
            rw [if_neg fun x => x.2 h4] at p5
            exact fin p5 none
          · rw [if_neg h4]
            cases e4 : numW ws 4 c 8 with
            | none =>
              rw [if_pos ⟨by rw [e4]; rfl, h4⟩] at p5
              exact hr (by rw [LFq_eq, seq_ok p1, seq_ok p2, seq_ok p3, seq_ok p4]; exact rt_ok15 p5)
            | some d =>
              rw [if_neg fun x => by rw [e4] at x; exact Bool.false_ne_true x.1] at p5
              exact fin p5 (some d)
  · rw [if_neg r0] at p1
    rw [if_pos r0]
    exact hr (by rw [LFq_eq]; exact rt_ok15 p1)
/-! a line of a word -/
def n15 (j : Nat) : D := .int (j : Int)
theorem rngL_n15 (a n : Nat) : rngL (a : Int) ((a + n : Nat) : Int) = (List.range' a n).map n15 := by
  rw [rngL_eq]
  unfold rngI
  rw [List.range'_eq_map_range, List.map_map, List.map_map]
  have : (((a + n : Nat) : Int) - (a : Int)).toNat = n := by omega
  rw [this]
  apply List.map_congr_left
  intro i _
  show D.int _ = D.int _
  congr 1
def numsP (ws : List Str) (s : Int) : Nat → Nat → Sum Int (List Int)
  | 0, _ => .inr []
  | n + 1, k => match numW ws k 0 (s - 1) with
    | none => .inl ((k : Int) + 1)
    | some x => match numsP ws s n (k + 1) with
      | .inl f => .inl f
      | .inr l => .inr (x :: l)
def faultP (ws : List Str) (s : Int) (w : Nat) : Sum Int (List Int) := if ws[0]? ≠ some ("word" : Str) then .inl 1 else match numsP ws s w 1 with
  | .inl f => .inl f
  | .inr l => if w + 1 < ws.length then .inl ((w : Int) + 2) else .inr l
theorem nums_ok {ws : List Str} {s : Int} : ∀ {n k : Nat} {l : List Int}, numsP ws s n k = .inr l → l.length = n ∧ (∀ x ∈ l, 0 ≤ x ∧ x ≤ s - 1) ∧ ∀ j, j < n → ws[k + j]? = some (nS (l.getD j 0))
  | 0, k, l, h => by
    cases h
    exact ⟨rfl, fun x hx => (by cases hx), fun j hj => absurd hj (Nat.not_lt_zero _)⟩
  | n + 1, k, l, h => by
    unfold numsP at h
    cases e : numW ws k 0 (s - 1) with
    | none => rw [e] at h; cases h
    | some x =>
      rw [e] at h
      cases e2 : numsP ws s n (k + 1) with
      | inl f => rw [e2] at h; cases h
      | inr l2 =>
        rw [e2] at h
        cases h
        obtain ⟨h1, h2, h3⟩ := numW_some e
        obtain ⟨g1, g2, g3⟩ := nums_ok e2
        refine ⟨by rw [List.length_cons, g1], fun y hy => ?_, fun j hj => ?_⟩
        · rcases List.mem_cons.mp hy with rfl | hy
          · exact ⟨h2, h3⟩
          · exact g2 y hy
        · cases j with
          | zero => exact h1
          | succ j =>
            have := g3 j (by omega)
            rw [show k + 1 + j = k + (j + 1) by omega] at this
            exact this
theorem goX_exc {g : D → M Unit} {t : M Bool} {el : M D} {vs : List Nat} {d : D} {ds acc : List D} {e e1 e2 e3 : Mi.Env} {x : Exn} (h1 : g d e = .ok () e1) (h2 : t e1 = .ok true e2) (h3 : el e2 = .exc x e3) : lcGoX g t el vs (d :: ds) acc e = .exc x e3 := by
  unfold lcGoX bindM noX
  simp only [h1, h2, if_true]
  rw [h3]
theorem goX_ok {g : D → M Unit} {t : M Bool} {el : M D} {vs : List Nat} {d y : D} {ds acc : List D} {e e1 e2 e3 : Mi.Env} (h1 : g d e = .ok () e1) (h2 : t e1 = .ok true e2) (h3 : el e2 = .ok y e3) (hz : acc.length + 1 ≤ 1000000) : lcGoX g t el vs (d :: ds) acc e = lcGoX g t el vs ds (acc ++ [y]) (wipeE e3 vs) := by
  have hs : small (acc ++ [y]) e3 = .ok () e3 := by
    unfold small
    rw [if_pos (by rw [List.length_append]; exact hz)]
  rw [lcGoX]
  unfold bindM noX
  simp only [h1, h2, if_true]
  rw [h3]
  simp only [hs]
abbrev W15 (wd line : D) (s : Int) (w : Nat) (s4 s5 : Mi.Slot) (row : RowS) : Mi.Env := ⟨[.val wd, .val line, .val (.int s), .val (.int (w : Int)), s4, s5], row⟩
theorem goX15 {ws : List Str} (hf : AllF ws) {s line : Int} (hs : 1 ≤ s) (hs2 : s ≤ 9) (w : Nat) (row : RowS) : ∀ (n k : Nat) (acc : List D), acc.length + n ≤ 1000 → match numsP ws s n k with
    | .inl f => ∃ e', lcGoX (gN 5) (pureM true) c_word_in_1 [5] ((List.range' k n).map n15) acc (W15 (sD ws) (.int line) s w .no .no row) = .exc (bad15 f line) e' ∧ e'.row = row
    | .inr l => lcGoX (gN 5) (pureM true) c_word_in_1 [5] ((List.range' k n).map n15) acc (W15 (sD ws) (.int line) s w .no .no row) = .ok (acc ++ l.map D.int) (W15 (sD ws) (.int line) s w .no .no row)
  | 0, k, acc, _ => by
    unfold numsP
    simp [lcGoX, pureM]
  | n + 1, k, acc, ha => by
    have hsub : subF (.int s) (.int 1) = some (.int (s - 1)) := rfl
    unfold numsP
    rw [List.range'_succ, List.map_cons]
    cases e : numW ws k 0 (s - 1) with
    | none =>
      have b := e_num_bad hf (k := k) (line := line) (by decide) (by omega) (by omega) e row
      have b : F_number_in [sD ws, n15 k, .int line, .int 0, .int (s - 1)] row = .exc (bad15 ((k : Int) + 1) line) row := b
      refine ⟨W15 (sD ws) (.int line) s w .no (.val (n15 k)) row, goX_exc (e1 := W15 (sD ws) (.int line) s w .no (.val (n15 k)) row) (e2 := W15 (sD ws) (.int line) s w .no (.val (n15 k)) row) ?_ rfl ?_, rfl⟩
      · generalize sD ws = wd at *
        generalize n15 k = kd at *
        simp
      · generalize bad15 ((k : Int) + 1) line = bx at *
        generalize sD ws = wd at *
        generalize n15 k = kd at *
        simp [c_word_in_1, hsub, b]
    | some x =>
      have o := e_num_ok (k := k) (line := line) (by decide) (by omega) e row
      have o : F_number_in [sD ws, n15 k, .int line, .int 0, .int (s - 1)] row = .ret (.int x) row := o
      have ih := goX15 hf (line := line) hs hs2 w row n (k + 1) (acc ++ [.int x]) (by simp; omega)
      have st : lcGoX (gN 5) (pureM true) c_word_in_1 [5] (n15 k :: (List.range' (k + 1) n).map n15) acc (W15 (sD ws) (.int line) s w .no .no row) = lcGoX (gN 5) (pureM true) c_word_in_1 [5] ((List.range' (k + 1) n).map n15) (acc ++ [.int x]) (W15 (sD ws) (.int line) s w .no .no row) := by
        refine goX_ok (e1 := W15 (sD ws) (.int line) s w .no (.val (n15 k)) row) (e2 := W15 (sD ws) (.int line) s w .no (.val (n15 k)) row) (e3 := W15 (sD ws) (.int line) s w .no (.val (n15 k)) row) ?_ rfl ?_ (by omega)
        · generalize sD ws = wd at *
          generalize n15 k = kd at *
          simp
        · generalize sD ws = wd at *
          generalize n15 k = kd at *
          simp [c_word_in_1, hsub, o]
      rw [st]
      dsimp only
      cases e2 : numsP ws s n (k + 1) with
      | inl f =>
        rw [e2] at ih
        exact ih
      | inr l =>
        rw [e2] at ih
        dsimp only at ih ⊢
        rw [ih, List.append_assoc]
        rfl
theorem range15 {w : Nat} (h : w ≤ 9) : range2D [.int 1, .int ((w : Int) + 1)] = some ((List.range' 1 w).map n15) := by
  rw [range2_ok (by decide) (okI_small (by omega) (by omega))]
  have := rngL_n15 1 w
  rw [show ((1 + w : Nat) : Int) = (w : Int) + 1 by omega] at this
  exact congrArg some this
theorem e_word {ws : List Str} (hf : AllF ws) {s line : Int} (hs : 1 ≤ s) (hs2 : s ≤ 9) {w : Nat} (hw : w ≤ 9) (row : RowS) : F_word_in [sD ws, .int line, .int s, .int (w : Int)] row = match faultP ws s w with
    | .inl f => .exc (bad15 f line) row
    | .inr l => .ret (iD l) row := by
  have c1 := cut_head ws
  have n1 := ne_one hf 0 fine_word
  have hlen := len_sD ws
  have g5 := gt_len ws.length ((w : Int) + 1)
  have hr := range15 hw
  have hx : ∀ {f : Int} {e : Mi.Env}, m_word_in (W15 (sD ws) (.int line) s w .no .no row) = .exc (bad15 f line) e → e.row = row → F_word_in [sD ws, .int line, .int s, .int (w : Int)] row = .exc (bad15 f line) row := fun h hr => fn_exc h hr
  have go := goX15 hf (line := line) hs hs2 w row w 1 [] (by simp; omega)
  unfold faultP
  by_cases r0 : ws[0]? = some ("word" : Str)
  · simp only [r0, decide_true, Bool.not_true] at n1
    rw [if_neg (by simp [r0])]
    have p1 : WIq1 (W15 (sD ws) (.int line) s w .no .no row) = .ok .nx (W15 (sD ws) (.int line) s w .no .no row) := by
      rw [r0] at c1
      generalize sD (some ("word" : Str)).toList = w0 at *
      generalize sD ws = wd at *
      simp [WIq1, c1, n1]
    cases e : numsP ws s w 1 with
    | inl f =>
      rw [e] at go
      obtain ⟨e', g1, g2⟩ := go
      have hrun : lcRunX (gN 5) (pureM true) c_word_in_1 [5] ((List.range' 1 w).map n15) (W15 (sD ws) (.int line) s w .no .no row) = .exc (bad15 f line) (W15 (sD ws) (.int line) s w .no .no row) := by
        unfold lcRunX
        have hw0 : wipeE (W15 (sD ws) (.int line) s w .no .no row) [5] = W15 (sD ws) (.int line) s w .no .no row := rfl
        have hcond : (noOwn (W15 (sD ws) (.int line) s w .no .no row).sl [5] && noCs (W15 (sD ws) (.int line) s w .no .no row).sl) = true := rfl
        rw [if_pos hcond, hw0, g1]
        simp only [g2]
      have p2 : WIq2 (W15 (sD ws) (.int line) s w .no .no row) = .exc (bad15 f line) (W15 (sD ws) (.int line) s w .no .no row) := by
        have hadd : addF (.int (w : Int)) (.int 1) = some (.int ((w : Int) + 1)) := rfl
        clear g1
        generalize (List.range' 1 w).map n15 = rl at *
        generalize bad15 f line = bx at *
        generalize sD ws = wd at *
        simp [WIq2, lcMX, hadd, hr, hrun]
      exact hx (by rw [WIq_eq, seq_ok p1]; exact exc_ok p2) rfl
    | inr l =>
      rw [e] at go
      have go : lcGoX (gN 5) (pureM true) c_word_in_1 [5] ((List.range' 1 w).map n15) [] (W15 (sD ws) (.int line) s w .no .no row) = .ok (l.map D.int) (W15 (sD ws) (.int line) s w .no .no row) := go
      have hrun : lcRunX (gN 5) (pureM true) c_word_in_1 [5] ((List.range' 1 w).map n15) (W15 (sD ws) (.int line) s w .no .no row) = .ok (.lst (l.map D.int)) (W15 (sD ws) (.int line) s w .no .no row) := by
        unfold lcRunX
        have hw0 : wipeE (W15 (sD ws) (.int line) s w .no .no row) [5] = W15 (sD ws) (.int line) s w .no .no row := rfl
        have hcond : (noOwn (W15 (sD ws) (.int line) s w .no .no row).sl [5] && noCs (W15 (sD ws) (.int line) s w .no .no row).sl) = true := rfl
        rw [if_pos hcond, hw0, go]
        rfl
      have p2 : WIq2 (W15 (sD ws) (.int line) s w .no .no row) = .ok .nx (W15 (sD ws) (.int line) s w (.val (iD l)) .no row) := by
        have hadd : addF (.int (w : Int)) (.int 1) = some (.int ((w : Int) + 1)) := rfl
        have ht : tupleF (OD.d (.lst (l.map D.int))) = some (iD l) := rfl
        clear go
        generalize (List.range' 1 w).map n15 = rl at *
        generalize OD.lst (l.map D.int) = ol at *
        generalize iD l = ld at *
        generalize sD ws = wd at *
        simp [WIq2, lcMX, hadd, hr, hrun, ht]
      have ha1 : addF (.int (w : Int)) (.int 1) = some (.int ((w : Int) + 1)) := rfl
      have ha2 : addF (.int (w : Int)) (.int 2) = some (.int ((w : Int) + 2)) := rfl
      dsimp only
      by_cases l5 : w + 1 < ws.length
      · rw [if_pos l5]
        rw [decide_eq_true (by omega)] at g5
        have p3 : WIq3 (W15 (sD ws) (.int line) s w (.val (iD l)) .no row) = .exc (bad15 ((w : Int) + 2) line) (W15 (sD ws) (.int line) s w (.val (iD l)) .no row) := by
          unfold bad15
          generalize iD l = ld at *
          generalize (ws.length : Int) = nn at *
          generalize sD ws = wd at *
          generalize (w : Int) + 2 = w2 at *
          generalize (w : Int) + 1 = w1 at *
          simp [WIq3, hlen, g5, ha1, ha2]
        exact hx (by rw [WIq_eq, seq_ok p1, seq_ok p2]; exact exc_ok p3) rfl
      · rw [if_neg l5]
        rw [decide_eq_false (by omega)] at g5
        have p3 : WIq3 (W15 (sD ws) (.int line) s w (.val (iD l)) .no row) = .ok .nx (W15 (sD ws) (.int line) s w (.val (iD l)) .no row) := by
          generalize iD l = ld at *
          generalize (ws.length : Int) = nn at *
          generalize sD ws = wd at *
          generalize (w : Int) + 1 = w1 at *
          simp [WIq3, hlen, g5, ha1]
        refine fn_ret (e := W15 (sD ws) (.int line) s w (.val (iD l)) .no row) ?_ rfl
        show m_word_in (W15 (sD ws) (.int line) s w .no .no row) = _
        rw [WIq_eq, seq_ok p1, seq_ok p2, seq_ok p3]
        generalize iD l = ld at *
        generalize sD ws = wd at *
        simp [WIq4]
  · rw [if_pos r0]
    simp only [r0, decide_false, Bool.not_false] at n1
    have p1 : WIq1 (W15 (sD ws) (.int line) s w .no .no row) = .exc (bad15 1 line) (W15 (sD ws) (.int line) s w .no .no row) := by
      unfold bad15
      generalize sD ws[0]?.toList = w0 at *
      generalize sD ws = wd at *
      simp [WIq1, c1, n1]
    exact hx (by rw [WIq_eq]; exact exc_ok p1) rfl
end
end Cut


set_option Elab.async false
set_option linter.all false
set_option maxRecDepth 100000
set_option maxHeartbeats 1000000
/-! P15c: the law's own look at a line of a word. -/
namespace Cut
open PySem Mi
open L2 (atI ixN atI_nat)
noncomputable section
theorem cutF_from (l : List D) (k : Nat) : cutF (.lst l) (some (k : Int)) none = some (.lst (l.drop k)) := by
  show some (D.lst (cutD _ _ _)) = _
  refine congrArg some (congrArg D.lst ?_)
  unfold cutD
  rw [HT.sIx_nat]
  have h0 : HT.sIx l.length l.length none = l.length := rfl
  rw [h0]
  by_cases h : k ≤ l.length
  · rw [Nat.min_eq_left h, List.take_of_length_le (by rw [List.length_drop]; exact Nat.le_refl _)]
  · rw [Nat.min_eq_right (by omega), List.drop_of_length_le (by omega), List.drop_of_length_le (by omega)]
    simp
theorem drop15 {ws : List Str} {s : Int} {w : Nat} {l : List Int} (h0 : ws[0]? = some ("word" : Str)) (h : numsP ws s w 1 = .inr l) (hl : ¬ w + 1 < ws.length) : ws.length = w + 1 ∧ ws.drop 1 = l.map nS := by
  obtain ⟨h1, h2, h3⟩ := nums_ok h
  have hlen : ws.length = w + 1 := by
    have g0 := (List.getElem?_eq_some_iff.mp h0).1
    cases w with
    | zero => omega
    | succ w =>
      have := (List.getElem?_eq_some_iff.mp (h3 w (by omega))).1
      omega
  refine ⟨hlen, ?_⟩
  apply List.ext_getElem?
  intro j
  rw [List.getElem?_drop, List.getElem?_map]
  by_cases hj : j < w
  · rw [h3 j hj, List.getElem?_eq_getElem (show j < l.length by omega)]
    simp [List.getD, List.getElem?_eq_getElem (show j < l.length by omega)]
  · rw [List.getElem?_eq_none (by omega), List.getElem?_eq_none (show l.length ≤ j by omega)]
    rfl
abbrev T15 (wd lst : D) (s : Int) (w : Nat) (s4 s5 : Mi.Slot) (row : RowS) : Mi.Env := ⟨[.val wd, .val (.int s), .val (.int (w : Int)), .val lst, s4, s5], row⟩
theorem lt_loop {ws : List Str} (hf : AllF ws) {s : Int} (hs : 1 ≤ s) (hs2 : s ≤ 9) (w : Nat) (lst : D) (row : RowS) : ∀ (n k : Nat) (s4 : Mi.Slot), match numsP ws s n k with
    | .inl f => ∃ s4', forM' (gN 4) b__law_fault_1 ((List.range' k n).map n15) (T15 (sD ws) lst s w s4 .no row) = .ok (.rt (.int f)) (T15 (sD ws) lst s w s4' .no row)
    | .inr _ => ∃ s4', forM' (gN 4) b__law_fault_1 ((List.range' k n).map n15) (T15 (sD ws) lst s w s4 .no row) = .ok .nx (T15 (sD ws) lst s w s4' .no row)
  | 0, k, s4 => ⟨s4, rfl⟩
  | n + 1, k, s4 => by
    have hsub : subF (.int s) (.int 1) = some (.int (s - 1)) := rfl
    have hadd : addF (n15 k) (.int 1) = some (.int ((k : Int) + 1)) := rfl
    have b := e_law_bad hf (k := k) (low := 0) (high := s - 1) (by decide) (by omega) (by omega) row
    have b : F__law_bad [sD ws, n15 k, .int 0, .int (s - 1)] row = .ret (.bl (numW ws k 0 (s - 1)).isNone) row := b
    unfold numsP
    rw [List.range'_succ, List.map_cons]
    cases e : numW ws k 0 (s - 1) with
    | none =>
      rw [e] at b
      refine ⟨.val (n15 k), ?_⟩
      refine for_rt (e1 := T15 (sD ws) lst s w (.val (n15 k)) .no row) ?_ ?_
      · generalize sD ws = wd at *
        generalize n15 k = kd at *
        simp
      · have b : F__law_bad [sD ws, n15 k, .int 0, .int (s - 1)] row = .ret (.bl true) row := b
        generalize sD ws = wd at *
        generalize n15 k = kd at *
        simp [b__law_fault_1, hsub, hadd, b]
    | some x =>
      rw [e] at b
      have st : bindM (gN 4 (n15 k)) (fun _ => b__law_fault_1) (T15 (sD ws) lst s w s4 .no row) = .ok .nx (T15 (sD ws) lst s w (.val (n15 k)) .no row) := by
        have b : F__law_bad [sD ws, n15 k, .int 0, .int (s - 1)] row = .ret (.bl false) row := b
        generalize sD ws = wd at *
        generalize n15 k = kd at *
        simp [b__law_fault_1, hsub, b]
      have ih := lt_loop hf hs hs2 w lst row n (k + 1) (.val (n15 k))
      rw [for_cons st]
      dsimp only
      cases e2 : numsP ws s n (k + 1) with
      | inl f => rw [e2] at ih; exact ih
      | inr l => rw [e2] at ih; exact ih
def lastW : Option (List Int) → D
  | none => .non
  | some v => iD v
/-- what is wrong with a line: none if nothing is -/
def wrongP (ws : List Str) (s : Int) (w : Nat) (last : Option (List Int)) : Option Int := match faultP ws s w with
  | .inl f => some f
  | .inr l => match last with
    | some v => if lexLe l v = true then some 0 else none
    | none => none
def optI15 : Option Int → D
  | none => .non
  | some f => .int f
theorem e_law_fault {ws : List Str} (hf : AllF ws) {s : Int} (hs : 1 ≤ s) (hs2 : s ≤ 9) {w : Nat} (hw : w ≤ 9) (last : Option (List Int)) (row : RowS) : F__law_fault [sD ws, .int s, .int (w : Int), lastW last] row = .ret (optI15 (wrongP ws s w last)) row := by
  have hr := range15 hw
  have hlen := len_sD ws
  have g5 := gt_len ws.length ((w : Int) + 1)
  have ha1 : addF (.int (w : Int)) (.int 1) = some (.int ((w : Int) + 1)) := rfl
  have ha2 : addF (.int (w : Int)) (.int 2) = some (.int ((w : Int) + 2)) := rfl
  have hx : ∀ {d : D} {e : Mi.Env}, m__law_fault (T15 (sD ws) (lastW last) s w .no .no row) = .ok (.rt d) e → e.row = row → F__law_fault [sD ws, .int s, .int (w : Int), lastW last] row = .ret d row := fun h hr => fn_ret h hr
  have p1 : LTq1 (T15 (sD ws) (lastW last) s w .no .no row) = (if ws[0]? = some ("word" : Str) then .ok .nx (T15 (sD ws) (lastW last) s w .no .no row) else .ok (.rt (.int 1)) (T15 (sD ws) (lastW last) s w .no .no row)) := by
    generalize lastW last = ld at *
    rcases begin15 hf fine_word with ⟨_, h1, h2⟩ | ⟨y, h0, h1, h2, h3⟩
    · rw [if_neg h2]
      generalize sD ws = wd at *
      simp [LTq1, h1]
    · by_cases c : ws[0]? = some ("word" : Str)
      · rw [if_pos c]
        simp only [c, decide_true, Bool.not_true] at h3
        generalize sD ws = wd at *
        simp [LTq1, h1, h2, h3]
      · rw [if_neg c]
        simp only [c, decide_false, Bool.not_false] at h3
        generalize sD ws = wd at *
        simp [LTq1, h1, h2, h3]
  unfold wrongP faultP
  by_cases r0 : ws[0]? = some ("word" : Str)
  · rw [if_pos r0] at p1
    rw [if_neg (by simp [r0])]
    have lo := lt_loop hf hs hs2 w (lastW last) row w 1 .no
    cases e : numsP ws s w 1 with
    | inl f =>
      rw [e] at lo
      obtain ⟨s4', lo⟩ := lo
      refine hx (e := T15 (sD ws) (lastW last) s w s4' .no row) ?_ rfl
      rw [LTq_eq, seq_ok p1]
      refine rt_ok15 ?_
      generalize lastW last = ld at *
      generalize (List.range' 1 w).map n15 = rl at *
      generalize sD ws = wd at *
      simp [LTq2, forL, ha1, hr]
      exact lo
    | inr l =>
      rw [e] at lo
      obtain ⟨s4', lo⟩ := lo
      have p2 : LTq2 (T15 (sD ws) (lastW last) s w .no .no row) = .ok .nx (T15 (sD ws) (lastW last) s w s4' .no row) := by
        generalize lastW last = ld at *
        generalize (List.range' 1 w).map n15 = rl at *
        generalize sD ws = wd at *
        simp [LTq2, forL, ha1, hr]
        exact lo
      clear lo
      dsimp only
      by_cases l5 : w + 1 < ws.length
      · rw [if_pos l5]
        rw [decide_eq_true (by omega)] at g5
        refine hx (e := T15 (sD ws) (lastW last) s w s4' .no row) ?_ rfl
        rw [LTq_eq, seq_ok p1, seq_ok p2]
        refine rt_ok15 ?_
        show _ = Res.ok (Fl.rt (.int ((w : Int) + 2))) _
        generalize lastW last = ld at *
        generalize (ws.length : Int) = nn at *
        generalize sD ws = wd at *
        generalize (w : Int) + 2 = w2 at *
        generalize (w : Int) + 1 = w1 at *
        simp [LTq3, hlen, g5, ha1, ha2]
      · rw [if_neg l5]
        rw [decide_eq_false (by omega)] at g5
        obtain ⟨hlw, hdrop⟩ := drop15 r0 e l5
        obtain ⟨hl1, hl2, _⟩ := nums_ok e
        have p3 : LTq3 (T15 (sD ws) (lastW last) s w s4' .no row) = .ok .nx (T15 (sD ws) (lastW last) s w s4' .no row) := by
          generalize lastW last = ld at *
          generalize (ws.length : Int) = nn at *
          generalize sD ws = wd at *
          generalize (w : Int) + 1 = w1 at *
          simp [LTq3, hlen, g5, ha1]
        refine hx (e := T15 (sD ws) (lastW last) s w s4' .no row) ?_ rfl
        rw [LTq_eq, seq_ok p1, seq_ok p2, seq_ok p3]
        cases last with
        | none =>
          have hn : notNF (lastW none) = some (.bl false) := rfl
          have hd : optI15 none = D.non := rfl
          dsimp only
          rw [hd]
          generalize lastW none = ld at *
          generalize sD ws = wd at *
          simp [LTq4, hn]
        | some v =>
          have hn : notNF (lastW (some v)) = some (.bl true) := rfl
          have hc : cutF (sD ws) (some 1) none = some (.lst ((l.map nS).map D.str)) := by
            have := cutF_from (ws.map D.str) 1
            rw [← List.map_drop, hdrop] at this
            exact this
          have hit : itemsD (.lst ((l.map nS).map D.str)) = some (l.map fun i => D.str (nS i)) := by
            rw [List.map_map]
            rfl
          have hlc := lc_enc (g := gN 5) (t := pureM true) (el := c__law_fault_1) (vs := [5]) (e := T15 (sD ws) (lastW (some v)) s w s4' .no row) (e0 := T15 (sD ws) (lastW (some v)) s w s4' .no row) (enc := fun i => D.str (nS i)) (fun _ => true) (fun i => D.int i) rfl rfl rfl l (by omega) (fun i hi => by
            obtain ⟨i0, i1⟩ := hl2 i hi
            have ti := int_nS (n := i) i0 (by omega)
            refine ⟨T15 (sD ws) (lastW (some v)) s w s4' (.val (.str (nS i))) row, ?_, rfl, fun _ => ?_, rfl⟩
            · generalize lastW (some v) = ld at *
              generalize sD ws = wd at *
              simp
            · generalize lastW (some v) = ld at *
              generalize sD ws = wd at *
              simp [c__law_fault_1, ti])
          rw [show l.filter (fun _ => true) = l from List.filter_eq_self.mpr fun _ _ => rfl] at hlc
          have ht : tupleF (OD.d (.lst (l.map fun i => D.int i))) = some (iD l) := rfl
          have hle : ordF .le (iD l) (lastW (some v)) = some (.bl (lexLe l v)) := le_w l v
          dsimp only
          by_cases c : lexLe l v = true
          · rw [if_pos c]
            rw [c] at hle
            show _ = Res.ok (Fl.rt (.int 0)) _
            generalize OD.lst (l.map fun i => D.int i) = ol at *
            generalize (l.map fun i => D.str (nS i)) = il at *
            generalize (l.map nS).map D.str = sl at *
            generalize iD l = lD at *
            generalize lastW (some v) = ld at *
            generalize sD ws = wd at *
            simp [LTq4, hn, hc, hit, hlc, ht, hle]
          · rw [if_neg c]
            have c' : lexLe l v = false := by
              cases hh : lexLe l v with
              | true => exact absurd hh c
              | false => rfl
            rw [c'] at hle
            show _ = Res.ok (Fl.rt .non) _
            generalize OD.lst (l.map fun i => D.int i) = ol at *
            generalize (l.map fun i => D.str (nS i)) = il at *
            generalize (l.map nS).map D.str = sl at *
            generalize iD l = lD at *
            generalize lastW (some v) = ld at *
            generalize sD ws = wd at *
            simp [LTq4, hn, hc, hit, hlc, ht, hle]
  · rw [if_neg r0] at p1
    rw [if_pos r0]
    exact hx (by rw [LTq_eq]; exact rt_ok15 p1) rfl
end
end Cut


set_option Elab.async false
set_option linter.all false
set_option maxRecDepth 100000
set_option maxHeartbeats 1000000
/-! P15d: the lines of a text, read and due. -/
namespace Cut
open PySem Mi
open TL (tl tl_append len_tl ext_tl joinL tl_join join_eq spl pre)
open L2 (atI ixN atI_nat)
noncomputable section
def RBq1 : M Fl := (asgM 9 (callM F_word_in (consM (readM 8) (consM (op2M (refM 7) (mapM' (pureM (.int 2)) Ref.val) addF) (consM (readM 3) (consM (readM 4) (pureM [])))))))
def RBq2 : M Fl := (iteM (andT (testM (op2M (refM 2) (mapM' (giveM (lstM (pureM []))) Ref.val) neF)) (testM (op2M (refM 9) (mapM' (op2M (refM 2) (mapM' (negM (pureM (.int 1))) Ref.val) ixF) Ref.val) (ordF .le))))
      (raiseXM "BadLine" ["line", "word"] (consM (op2M (refM 7) (mapM' (pureM (.int 2)) Ref.val) addF) (consM (pureM (.int 0)) (pureM []))))
      (nxM))
def RBq3 : M Fl := (appM 2 (readM 9))
theorem RBq_eq : b_read_1 = seqM RBq1 (seqM RBq2 RBq3) := rfl
def DBq1 : M Fl := (asgO 5 (lcM (walkM (giveM (splitM (op2M (refM 4) (refM 1) ixF) (mapM' (pureM (.str " ")) Ref.val)))) (gN 7) (u__law_due_1) (c__law_due_1) [7]))
def DBq2 : M Fl := (iteM (testM (op2M (refM 1) (mapM' (pureM (.int 0)) Ref.val) eqF))
      (asgM 6 (callM F__law_first (consM (readM 5) (pureM []))))
      (asgM 6 (callM F__law_fault (consM (readM 5) (consM (op2M (refM 2) (mapM' (pureM (.int 0)) Ref.val) ixF) (consM (op2M (refM 2) (mapM' (pureM (.int 1)) Ref.val) ixF) (consM (iteM (testM (op2M (refM 3) (mapM' (giveM (lstM (pureM []))) Ref.val) neF)) (op2M (refM 3) (mapM' (negM (pureM (.int 1))) Ref.val) ixF) (pureM .non)) (pureM []))))))))
def DBq3 : M Fl := (iteM (testM (op1M (refM 6) notNF))
      (retM (giveM (lstM (consM (pureM (.str "line")) (consM (op2M (refM 1) (mapM' (pureM (.int 1)) Ref.val) addF) (consM (readM 6) (pureM [])))))))
      (nxM))
def DBq4 : M Fl := (iteM (testM (op2M (refM 1) (mapM' (pureM (.int 0)) Ref.val) eqF))
      (asgM 2 (giveM (lstM (consM (op1M (mapM' (op2M (refM 5) (mapM' (pureM (.int 1)) Ref.val) ixF) Ref.val) intTF) (consM (op1M (mapM' (op2M (refM 5) (mapM' (pureM (.int 2)) Ref.val) ixF) Ref.val) intTF) (consM (op1M (mapM' (op2M (refM 5) (mapM' (pureM (.int 3)) Ref.val) ixF) Ref.val) intTF) (consM (iteM (testM (op2M (mapM' (op2M (refM 5) (mapM' (pureM (.int 4)) Ref.val) ixF) Ref.val) (mapM' (pureM (.str "none")) Ref.val) eqF)) (pureM .non) (op1M (mapM' (op2M (refM 5) (mapM' (pureM (.int 4)) Ref.val) ixF) Ref.val) intTF)) (pureM []))))))))
      (appM 3 (op1M (mapM' (giveM (lcM (walkM (sliceM (refM 5) (partM (pureM (.int 1))) (pureM none))) (gN 7) (pureM true) (c__law_due_2) [7])) Ref.val) tupleF)))
theorem DBq_eq : b__law_due_1 = seqM DBq1 (seqM DBq2 (seqM DBq3 DBq4)) := rfl
/-! words of a line -/
theorem split_len (L : Str) : (Txt.split L " ").length ≤ L.length + 1 := by
  have e := TL.split_spl L (" " : Str) (by decide) (TL.kind_ok (by decide +kernel))
  have e2 := congrArg List.length e
  rw [List.length_map] at e2
  rw [e2, len_tl]
  have : ∀ (l : List Nat) (k : Nat) (acc : List Nat), (spl (tl (" " : Str)) k acc l).length ≤ l.length + 1 := by
    intro l
    induction l with
    | nil => intro k acc; rw [TL.spl_nil]; exact Nat.le_refl _
    | cons a r ih =>
      intro k acc
      cases k with
      | zero =>
        by_cases hp : pre (tl (" " : Str)) (a :: r) = true
        · rw [TL.spl_hit hp]
          have := ih ((tl (" " : Str)).length - 1) []
          simp only [List.length_cons]
          omega
        · rw [TL.spl_miss (by simpa using hp)]
          have := ih 0 (acc ++ [a])
          simp only [List.length_cons]
          omega
      | succ k =>
        have := ih k acc
        show (spl (tl (" " : Str)) k acc r).length ≤ _
        simp only [List.length_cons]
        omega
  exact this (tl L) 0 []
theorem wordsF {L : Str} (h : Fine L) : AllF (wordsOf L) := fun w hw => split_fine h w ((List.mem_filter.mp hw).1)
def LF (L : Str) : Prop := Fine L ∧ L.length ≤ 1000
theorem e_lineW15 {L : Str} (h : LF L) (t : D) (row : RowS) : c_read_2 ⟨[.val t, .no, .no, .no, .no, .no, .no, .no, .no, .no, .val (.str L)], row⟩ = .ok (sD (wordsOf L)) ⟨[.val t, .no, .no, .no, .no, .no, .no, .no, .no, .no, .val (.str L)], row⟩ := by
  have hsp := split_ok (a := L) (b := " ") (by decide) (by have := h.2; omega)
  have hlen : (Txt.split L " ").length ≤ 1000000 := by
    have := split_len L
    have := h.2
    omega
  have hc := lc_enc (g := gN 9) (t := u_read_1) (el := c_read_1) (vs := [9]) (e := ⟨[.val t, .no, .no, .no, .no, .no, .no, .no, .no, .no, .val (.str L)], row⟩) (e0 := ⟨[.val t, .no, .no, .no, .no, .no, .no, .no, .no, .no, .val (.str L)], row⟩) (enc := D.str) (fun w : Str => !decide (w = ("" : Str))) (fun w => .str w) rfl rfl rfl (Txt.split L " ") hlen (fun w hw => by
    have hn := ne_s (split_fine h.1 w hw) fine_nil
    exact ⟨⟨[.val t, .no, .no, .no, .no, .no, .no, .no, .no, .val (.str w), .val (.str L)], row⟩, rfl, by simp [u_read_1, hn], fun _ => by simp [c_read_1], rfl⟩)
  rw [← words_filter] at hc
  have he : OD.d (.lst ((wordsOf L).map D.str)) = sD (wordsOf L) := rfl
  unfold wordsOf at *
  generalize sD ((Txt.split L " ").filter fun w => !(tl w).isEmpty) = res at *
  generalize OD.lst (((Txt.split L " ").filter fun w => !(tl w).isEmpty).map D.str) = reso at *
  generalize (Txt.split L " ").map D.str = sp at *
  simp [c_read_2, hsp, hc, he]
theorem e_dueW {L : Str} (h : LF L) (s0 s1 s2 s3 s4 s5 s6 : Mi.Slot) (row : RowS) : lcRun (gN 7) u__law_due_1 c__law_due_1 [7] ((Txt.split L " ").map D.str) ⟨[s0, s1, s2, s3, s4, s5, s6, .no], row⟩ = .ok (.lst ((wordsOf L).map D.str)) ⟨[s0, s1, s2, s3, s4, s5, s6, .no], row⟩ := by
  have hlen : (Txt.split L " ").length ≤ 1000000 := by
    have := split_len L
    have := h.2
    omega
  have hc := lc_enc (g := gN 7) (t := u__law_due_1) (el := c__law_due_1) (vs := [7]) (e := ⟨[s0, s1, s2, s3, s4, s5, s6, .no], row⟩) (e0 := ⟨[s0, s1, s2, s3, s4, s5, s6, .no], row⟩) (enc := D.str) (fun w : Str => !decide (w = ("" : Str))) (fun w => .str w) rfl rfl rfl (Txt.split L " ") hlen (fun w hw => by
    have hn := ne_s (split_fine h.1 w hw) fine_nil
    exact ⟨⟨[s0, s1, s2, s3, s4, s5, s6, .val (.str w)], row⟩, rfl, by simp [u__law_due_1, hn], fun _ => by simp [c__law_due_1], rfl⟩)
  rw [← words_filter] at hc
  exact hc
/-! the lines behind the first -/
def low15 (l : List Int) : Option (List Int) → Bool
  | some v => lexLe l v
  | none => false
def rowsP (s : Int) (w : Nat) : List (List Str) → Option (List Int) → Int → Sum (Int × Int) (List (List Int))
  | [], _, _ => .inr []
  | ws :: r, last, n => match faultP ws s w with
    | .inl f => .inl (n, f)
    | .inr l => if low15 l last = true then .inl (n, 0) else match rowsP s w r (some l) (n + 1) with
      | .inl x => .inl x
      | .inr ls => .inr (l :: ls)
theorem fault_inr {ws : List Str} {s : Int} {w : Nat} {l : List Int} (h : faultP ws s w = .inr l) : ws[0]? = some ("word" : Str) ∧ numsP ws s w 1 = .inr l ∧ ¬ w + 1 < ws.length := by
  unfold faultP at h
  by_cases c : ws[0]? = some ("word" : Str)
  · rw [if_neg (by simp [c])] at h
    cases e : numsP ws s w 1 with
    | inl f => rw [e] at h; cases h
    | inr l2 =>
      rw [e] at h
      dsimp only at h
      by_cases c2 : w + 1 < ws.length
      · rw [if_pos c2] at h; cases h
      · rw [if_neg c2] at h
        cases h
        exact ⟨c, rfl, c2⟩
  · rw [if_pos c] at h
    cases h
theorem rows_ok {s : Int} {w : Nat} : ∀ {wss : List (List Str)} {last : Option (List Int)} {n : Int} {ls : List (List Int)}, rowsP s w wss last n = .inr ls → ls.length = wss.length ∧ (∀ l ∈ ls, wordOk s w l) ∧ Asc (last.toList ++ ls)
  | [], last, n, ls, h => by
    cases h
    refine ⟨rfl, fun l hl => absurd hl List.not_mem_nil, ?_⟩
    cases last <;> trivial
  | ws :: r, last, n, ls, h => by
    unfold rowsP at h
    cases e : faultP ws s w with
    | inl f => rw [e] at h; cases h
    | inr l =>
      rw [e] at h
      dsimp only at h
      obtain ⟨_, hn, _⟩ := fault_inr e
      obtain ⟨h1, h2, _⟩ := nums_ok hn
      by_cases c : low15 l last = true
      · rw [if_pos c] at h; cases h
      · rw [if_neg c] at h
        cases e2 : rowsP s w r (some l) (n + 1) with
        | inl x => rw [e2] at h; cases h
        | inr ls2 =>
          rw [e2] at h
          cases h
          obtain ⟨i1, i2, i3⟩ := rows_ok e2
          refine ⟨by rw [List.length_cons, i1, List.length_cons], fun x hx => ?_, ?_⟩
          · rcases List.mem_cons.mp hx with rfl | hx
            · exact ⟨h1, h2⟩
            · exact i2 x hx
          · cases last with
            | none => exact i3
            | some v => exact ⟨by
                cases hh : lexLe l v with
                | true => exact absurd hh c
                | false => rfl, i3⟩
theorem last_cut (done : List (List Int)) : (done = [] ∧ done.getLast? = none) ∨ ∃ pre v, done = pre ++ [v] ∧ done.getLast? = some v := by
  rcases List.eq_nil_or_concat done with hd | ⟨pre, v, hd⟩
  · exact .inl ⟨hd, by rw [hd]; rfl⟩
  · have hd' : done = pre ++ [v] := by simpa using hd
    exact .inr ⟨pre, v, hd', by rw [hd']; simp⟩
theorem last_snoc (done : List (List Int)) (l : List Int) : (done ++ [l]).getLast? = some l := by simp
theorem small15 {done : List (List Int)} {l : List Int} (h : done.length < 1000000) (e0 : Mi.Env) : small (wD done ++ [iD l]) e0 = .ok () e0 := by
  unfold small
  rw [if_pos]
  rw [List.length_append]
  unfold wD
  simp
  omega
theorem wD_snoc (done : List (List Int)) (l : List Int) : wD done ++ [iD l] = wD (done ++ [l]) := by simp [wD]
theorem neg1_wD (pre : List (List Int)) (v : List Int) : ixF (.lst (wD (pre ++ [v]))) (.int (-1)) = some (iD v) := by
  rw [← wD_snoc]
  exact at_neg1 _ _
abbrev V15 (t : D) (lns done : List D) (s w s5 s6 : D) (s7 s8 s9 : Mi.Slot) (row : RowS) : Mi.Env := ⟨[.val t, .own (.lst lns), .own (.lst done), .val s, .val w, .val s5, .val s6, s7, s8, s9, .no], row⟩
theorem read_loop15 (t : D) (lns : List D) {s : Int} (hs : 1 ≤ s) (hs2 : s ≤ 9) {w : Nat} (hw : w ≤ 9) (s5 s6 : D) (row : RowS) : ∀ (todo : List (List Str)) (done : List (List Int)), (∀ ws ∈ todo, AllF ws) → done.length + todo.length ≤ 1000000 → ∀ (s7 s8 s9 : Mi.Slot), match rowsP s w todo done.getLast? ((done.length : Int) + 2) with
    | .inl nf => ∃ e', forM' (gTupM 2 (gsCons (gN 7) (gsCons (gN 8) (gsNil)))) b_read_1 (enumF sD done.length todo) (V15 t lns (wD done) (.int s) (.int (w : Int)) s5 s6 s7 s8 s9 row) = .exc (bad15 nf.2 nf.1) e' ∧ e'.row = row
    | .inr ls => ∃ s7' s8' s9', forM' (gTupM 2 (gsCons (gN 7) (gsCons (gN 8) (gsNil)))) b_read_1 (enumF sD done.length todo) (V15 t lns (wD done) (.int s) (.int (w : Int)) s5 s6 s7 s8 s9 row) = .ok .nx (V15 t lns (wD (done ++ ls)) (.int s) (.int (w : Int)) s5 s6 s7' s8' s9' row)
  | [], done, _, _, s7, s8, s9 => ⟨s7, s8, s9, by rw [List.append_nil]; simp [enumF]⟩
  | ws :: todo, done, hf, hsz, s7, s8, s9 => by
    rw [List.length_cons] at hsz
    have hw1 := e_word (hf ws List.mem_cons_self) (line := (done.length : Int) + 2) hs hs2 hw row
    have hadd : addF (.int (done.length : Int)) (.int 2) = some (.int ((done.length : Int) + 2)) := rfl
    have hg : gTupM 2 (gsCons (gN 7) (gsCons (gN 8) (gsNil))) (.tup [.int (done.length : Int), sD ws]) (V15 t lns (wD done) (.int s) (.int (w : Int)) s5 s6 s7 s8 s9 row) = .ok () (V15 t lns (wD done) (.int s) (.int (w : Int)) s5 s6 (.val (.int (done.length : Int))) (.val (sD ws)) s9 row) := by
      generalize sD ws = wd at *
      generalize wD done = dd at *
      simp
    have hne := ne_lnil (l := wD done) (plains_wD 58 done)
    rw [enumF_cons]
    unfold rowsP
    cases e : faultP ws s w with
    | inl f =>
      rw [e] at hw1
      refine ⟨_, for_exc hg (e2 := (V15 t lns (wD done) (.int s) (.int (w : Int)) s5 s6 (.val (.int (done.length : Int))) (.val (sD ws)) s9 row)) ?_, rfl⟩
      rw [RBq_eq]
      refine exc_ok ?_
      have hw1 : F_word_in [sD ws, .int ((done.length : Int) + 2), .int s, .int (w : Int)] row = .exc (bad15 f ((done.length : Int) + 2)) row := hw1
      generalize sD ws = wd at *
      generalize wD done = dd at *
      generalize bad15 f ((done.length : Int) + 2) = bx at *
      simp [RBq1, hadd, hw1]
    | inr l =>
      rw [e] at hw1
      have hw1 : F_word_in [sD ws, .int ((done.length : Int) + 2), .int s, .int (w : Int)] row = .ret (iD l) row := hw1
      have p1 : RBq1 (V15 t lns (wD done) (.int s) (.int (w : Int)) s5 s6 (.val (.int (done.length : Int))) (.val (sD ws)) s9 row) = .ok .nx (V15 t lns (wD done) (.int s) (.int (w : Int)) s5 s6 (.val (.int (done.length : Int))) (.val (sD ws)) (.val (iD l)) row) := by
        generalize sD ws = wd at *
        generalize wD done = dd at *
        generalize iD l = ld at *
        simp [RBq1, hadd, hw1]
      have p2 : RBq2 (V15 t lns (wD done) (.int s) (.int (w : Int)) s5 s6 (.val (.int (done.length : Int))) (.val (sD ws)) (.val (iD l)) row) = (if low15 l done.getLast? = true then .exc (bad15 0 ((done.length : Int) + 2)) (V15 t lns (wD done) (.int s) (.int (w : Int)) s5 s6 (.val (.int (done.length : Int))) (.val (sD ws)) (.val (iD l)) row) else .ok .nx (V15 t lns (wD done) (.int s) (.int (w : Int)) s5 s6 (.val (.int (done.length : Int))) (.val (sD ws)) (.val (iD l)) row)) := by
        unfold bad15
        rcases last_cut done with ⟨hd, hl⟩ | ⟨pre, v, hd, hl⟩
        · rw [hl, if_neg (show ¬ low15 l none = true from Bool.false_ne_true)]
          have hem : (wD done).isEmpty = true := by rw [hd]; rfl
          rw [hem] at hne
          generalize sD ws = wd at *
          generalize wD done = dd at *
          generalize iD l = ld at *
          simp [RBq2, hne]
        · rw [hl]
          have hem : (wD done).isEmpty = false := by rw [hd]; simp [wD]
          rw [hem] at hne
          have hix : ixF (.lst (wD done)) (.int (-1)) = some (iD v) := by rw [hd]; exact neg1_wD pre v
          have hle : ordF .le (iD l) (iD v) = some (.bl (lexLe l v)) := le_w l v
          show _ = (if lexLe l v = true then _ else _)
          generalize lexLe l v = z at *
          generalize sD ws = wd at *
          generalize wD done = dd at *
          generalize iD l = ld at *
          generalize iD v = vd at *
          generalize (done.length : Int) = k at *
          generalize k + 2 = k2 at *
          cases z <;> simp [RBq2, hne, hix, hle, hadd]
      dsimp only
      by_cases c : low15 l done.getLast? = true
      · rw [if_pos c] at p2 ⊢
        refine ⟨_, for_exc hg (e2 := (V15 t lns (wD done) (.int s) (.int (w : Int)) s5 s6 (.val (.int (done.length : Int))) (.val (sD ws)) (.val (iD l)) row)) ?_, rfl⟩
        rw [RBq_eq, seq_ok p1]
        exact exc_ok p2
      · rw [if_neg c] at p2 ⊢
        have hsm := small15 (done := done) (l := l) (by omega)
        have p3 : RBq3 (V15 t lns (wD done) (.int s) (.int (w : Int)) s5 s6 (.val (.int (done.length : Int))) (.val (sD ws)) (.val (iD l)) row) = .ok .nx (V15 t lns (wD (done ++ [l])) (.int s) (.int (w : Int)) s5 s6 (.val (.int (done.length : Int))) (.val (sD ws)) (.val (iD l)) row) := by
          rw [← wD_snoc]
          generalize sD ws = wd at *
          generalize wD done = dd at *
          generalize iD l = ld at *
          simp [RBq3, hsm]
        have hb : b_read_1 (V15 t lns (wD done) (.int s) (.int (w : Int)) s5 s6 (.val (.int (done.length : Int))) (.val (sD ws)) s9 row) = .ok .nx (V15 t lns (wD (done ++ [l])) (.int s) (.int (w : Int)) s5 s6 (.val (.int (done.length : Int))) (.val (sD ws)) (.val (iD l)) row) := by
          rw [RBq_eq, seq_ok p1, seq_ok p2]
          exact p3
        have ih := read_loop15 t lns hs hs2 hw s5 s6 row todo (done ++ [l]) (fun x hx => hf x (List.mem_cons_of_mem _ hx)) (by rw [List.length_append, List.length_singleton]; omega) (.val (.int (done.length : Int))) (.val (sD ws)) (.val (iD l))
        rw [for_nx hg hb]
        rw [last_snoc] at ih
        have e1 : (done ++ [l]).length = done.length + 1 := by simp
        rw [e1] at ih
        have e2 : ((done.length + 1 : Nat) : Int) + 2 = (done.length : Int) + 2 + 1 := by omega
        rw [e2] at ih
        cases e3 : rowsP s w todo (some l) ((done.length : Int) + 2 + 1) with
        | inl nf =>
          rw [e3] at ih
          exact ih
        | inr ls =>
          rw [e3] at ih
          dsimp only at ih ⊢
          rw [List.append_assoc] at ih
          exact ih
end
end Cut


set_option Elab.async false
set_option linter.all false
set_option maxRecDepth 100000
set_option maxHeartbeats 1000000
/-! P15e: the lines that are due. -/
namespace Cut
open PySem Mi
open TL (tl tl_append len_tl ext_tl joinL tl_join join_eq spl pre)
open L2 (atI ixN atI_nat)
noncomputable section
theorem wrong_none {ws : List Str} {s : Int} {w : Nat} {last : Option (List Int)} : wrongP ws s w last = match faultP ws s w with
    | .inl f => some f
    | .inr l => if low15 l last = true then some 0 else none := by
  unfold wrongP
  cases faultP ws s w with
  | inl f => rfl
  | inr l =>
    cases last with
    | none => rfl
    | some v => rfl
abbrev U15 (t at_ hd : D) (done : List D) (lines : D) (s5 s6 : Mi.Slot) (row : RowS) : Mi.Env := ⟨[.val t, .val at_, .val hd, .own (.lst done), .val lines, s5, s6, .no], row⟩
theorem due_w {X : D} {Ls : List Str} {k : Nat} {L : Str} (hk : Ls[k]? = some L) (hL : LF L) (hd : D) (done : List D) (s5 s6 : Mi.Slot) (row : RowS) : DBq1 (U15 X (n15 k) hd done (sD Ls) s5 s6 row) = .ok .nx (U15 X (n15 k) hd done (sD Ls) (.own (.lst ((wordsOf L).map D.str))) s6 row) := by
  have hix : ixF (sD Ls) (n15 k) = some (.str L) := ix_sD hk
  have hsp := split_ok (a := L) (b := " ") (by decide) (by have := hL.2; omega)
  have hit : itemsD (.lst ((Txt.split L " ").map D.str)) = some ((Txt.split L " ").map D.str) := rfl
  have hc := e_dueW hL (.val X) (.val (n15 k)) (.val hd) (.own (.lst done)) (.val (sD Ls)) s5 s6 row
  generalize OD.lst ((wordsOf L).map D.str) = od at *
  generalize (Txt.split L " ").map D.str = sp at *
  generalize sD Ls = lsd at *
  generalize n15 k = kd at *
  simp [DBq1, hix, hsp, hit, hc]
def hdE (h : Hd15) : D := .lst [.int h.1, .int h.2.1, .int h.2.2.1, hD h.2.2.2]
theorem eq0_15 {k : Nat} (h : 0 < k) : eqF (n15 k) (.int 0) = some (.bl false) := by
  have : ¬ ((k : Int) = 0) := by omega
  simp [n15]
  omega
theorem due_step2 {X : D} {Ls : List Str} {h : Hd15} (hs : 1 ≤ h.1) (hs2 : h.1 ≤ 9) {w : Nat} (hw : w ≤ 9) (hwh : h.2.1 = (w : Int)) {k : Nat} (hk : 0 < k) {ws : List Str} (hf : AllF ws) (done : List (List Int)) (s6 : Mi.Slot) (row : RowS) :
    DBq2 (U15 X (n15 k) (hdE h) (wD done) (sD Ls) (.own (.lst (ws.map D.str))) s6 row) = .ok .nx (U15 X (n15 k) (hdE h) (wD done) (sD Ls) (.val (sD ws)) (.val (optI15 (wrongP ws h.1 w done.getLast?))) row) := by
  have hz := eq0_15 hk
  have i0 : ixF (hdE h) (.int 0) = some (.int h.1) := rfl
  have i1 : ixF (hdE h) (.int 1) = some (.int (w : Int)) := by rw [← hwh]; rfl
  have hne := ne_lnil (l := wD done) (plains_wD 58 done)
  have hod : OD.d (.lst (ws.map D.str)) = sD ws := rfl
  have b := e_law_fault hf hs hs2 hw done.getLast? row
  rcases last_cut done with ⟨hd, hl⟩ | ⟨pre, v, hd, hl⟩
  · have hem : (wD done).isEmpty = true := by rw [hd]; rfl
    rw [hem] at hne
    rw [hl] at b ⊢
    have b : F__law_fault [sD ws, .int h.1, .int (w : Int), .non] row = .ret (optI15 (wrongP ws h.1 w none)) row := b
    generalize optI15 (wrongP ws h.1 w none) = o at *
    generalize OD.lst (ws.map D.str) = od at *
    generalize sD ws = wd at *
    generalize sD Ls = lsd at *
    generalize wD done = dd at *
    generalize hdE h = hh at *
    generalize n15 k = kd at *
    simp [DBq2, hz, i0, i1, hne, b, hod]
  · have hem : (wD done).isEmpty = false := by rw [hd]; simp [wD]
    rw [hem] at hne
    have hix : ixF (.lst (wD done)) (.int (-1)) = some (iD v) := by rw [hd]; exact neg1_wD pre v
    rw [hl] at b ⊢
    have b : F__law_fault [sD ws, .int h.1, .int (w : Int), iD v] row = .ret (optI15 (wrongP ws h.1 w (some v))) row := b
    generalize optI15 (wrongP ws h.1 w (some v)) = o at *
    generalize iD v = vd at *
    generalize OD.lst (ws.map D.str) = od at *
    generalize sD ws = wd at *
    generalize sD Ls = lsd at *
    generalize wD done = dd at *
    generalize hdE h = hh at *
    generalize n15 k = kd at *
    simp [DBq2, hz, i0, i1, hne, b, hod, hix]
theorem due_step3 (X hd : D) (done : List D) (lines : D) (s5 : Mi.Slot) (k : Nat) (o : Option Int) (row : RowS) :
    DBq3 (U15 X (n15 k) hd done lines s5 (.val (optI15 o)) row) = match o with
      | some f => .ok (.rt (.lst [.str "line", .int ((k : Int) + 1), .int f])) (U15 X (n15 k) hd done lines s5 (.val (optI15 o)) row)
      | none => .ok .nx (U15 X (n15 k) hd done lines s5 (.val (optI15 o)) row) := by
  have hadd : addF (n15 k) (.int 1) = some (.int ((k : Int) + 1)) := rfl
  cases o with
  | none =>
    have hn : notNF (optI15 none) = some (.bl false) := rfl
    generalize optI15 none = od at *
    generalize n15 k = kd at *
    simp [DBq3, hn]
  | some f =>
    have hn : notNF (.int f) = some (.bl true) := rfl
    have he : optI15 (some f) = .int f := rfl
    rw [he]
    generalize n15 k = kd at *
    have hod : ∀ X : List D, OD.d (.lst X) = .lst X := fun _ => rfl
    simp [DBq3, hn, hadd, hod]
theorem due_step4 {X : D} {Ls : List Str} {hd : D} {s : Int} (hs : 1 ≤ s) (hs2 : s ≤ 9) {w : Nat} (hw : w ≤ 9) {k : Nat} (hk : 0 < k) {ws : List Str} {l : List Int} (e : faultP ws s w = .inr l) {done : List (List Int)} (hsz : done.length < 1000000) (s6 : Mi.Slot) (row : RowS) :
    DBq4 (U15 X (n15 k) hd (wD done) (sD Ls) (.val (sD ws)) s6 row) = .ok .nx (U15 X (n15 k) hd (wD (done ++ [l])) (sD Ls) (.val (sD ws)) s6 row) := by
  obtain ⟨r0, hn, l5⟩ := fault_inr e
  obtain ⟨hlw, hdrop⟩ := drop15 r0 hn l5
  obtain ⟨hl1, hl2, _⟩ := nums_ok hn
  have hz := eq0_15 hk
  have hc : cutF (sD ws) (some 1) none = some (.lst ((l.map nS).map D.str)) := by
    have := cutF_from (ws.map D.str) 1
    rw [← List.map_drop, hdrop] at this
    exact this
  have hit : itemsD (.lst ((l.map nS).map D.str)) = some (l.map fun i => D.str (nS i)) := by
    rw [List.map_map]
    rfl
  have hlc := lc_enc (g := gN 7) (t := pureM true) (el := c__law_due_2) (vs := [7]) (e := U15 X (n15 k) hd (wD done) (sD Ls) (.val (sD ws)) s6 row) (e0 := U15 X (n15 k) hd (wD done) (sD Ls) (.val (sD ws)) s6 row) (enc := fun i => D.str (nS i)) (fun _ => true) (fun i => D.int i) rfl rfl rfl l (by omega) (fun i hi => by
    obtain ⟨i0, i1⟩ := hl2 i hi
    have ti := int_nS (n := i) i0 (by omega)
    refine ⟨⟨[.val X, .val (n15 k), .val hd, .own (.lst (wD done)), .val (sD Ls), .val (sD ws), s6, .val (.str (nS i))], row⟩, rfl, rfl, fun _ => ?_, rfl⟩
    generalize sD ws = wd at *
    generalize sD Ls = lsd at *
    generalize wD done = dd at *
    generalize n15 k = kd at *
    simp [c__law_due_2, ti])
  rw [show l.filter (fun _ => true) = l from List.filter_eq_self.mpr fun _ _ => rfl] at hlc
  have ht : tupleF (OD.d (.lst (l.map fun i => D.int i))) = some (iD l) := rfl
  have hsm := small15 (done := done) (l := l) hsz
  rw [← wD_snoc]
  generalize OD.lst (l.map fun i => D.int i) = ol at *
  generalize (l.map fun i => D.str (nS i)) = il at *
  generalize (l.map nS).map D.str = sl at *
  generalize iD l = lD at *
  generalize sD ws = wd at *
  generalize sD Ls = lsd at *
  generalize wD done = dd at *
  generalize n15 k = kd at *
  simp [DBq4, hz, hc, hit, hlc, ht, hsm]
theorem due_loop {X : D} {Ls : List Str} {h : Hd15} (hs : 1 ≤ h.1) (hs2 : h.1 ≤ 9) {w : Nat} (hw : w ≤ 9) (hwh : h.2.1 = (w : Int)) (row : RowS) : ∀ (todo pre : List Str) (done : List (List Int)), Ls = pre ++ todo → pre.length = done.length + 1 → (∀ L ∈ todo, LF L) → done.length + todo.length ≤ 1000000 → ∀ (s1 : D) (s5 s6 : Mi.Slot), match rowsP h.1 w (todo.map wordsOf) done.getLast? ((done.length : Int) + 2) with
    | .inl nf => ∃ e', forM' (gN 1) b__law_due_1 ((List.range' pre.length todo.length).map n15) (U15 X s1 (hdE h) (wD done) (sD Ls) s5 s6 row) = .ok (.rt (.lst [.str "line", .int nf.1, .int nf.2])) e' ∧ e'.row = row
    | .inr ls => ∃ s1' s5' s6', forM' (gN 1) b__law_due_1 ((List.range' pre.length todo.length).map n15) (U15 X s1 (hdE h) (wD done) (sD Ls) s5 s6 row) = .ok .nx (U15 X s1' (hdE h) (wD (done ++ ls)) (sD Ls) s5' s6' row)
  | [], pre, done, _, _, _, _, s1, s5, s6 => ⟨s1, s5, s6, by rw [List.append_nil]; rfl⟩
  | L :: todo, pre, done, hLs, hp, hL, hsz, s1, s5, s6 => by
    rw [List.length_cons] at hsz
    have hk : Ls[pre.length]? = some L := by rw [hLs]; simp
    have hLL := hL L List.mem_cons_self
    have hg : gN 1 (n15 pre.length) (U15 X s1 (hdE h) (wD done) (sD Ls) s5 s6 row) = .ok () (U15 X (n15 pre.length) (hdE h) (wD done) (sD Ls) s5 s6 row) := by
      generalize sD Ls = lsd at *
      generalize wD done = dd at *
      generalize hdE h = hh at *
      generalize n15 pre.length = kd at *
      simp
    have q1 := due_w (X := X) hk hLL (hdE h) (wD done) s5 s6 row
    have q2 := due_step2 (X := X) (Ls := Ls) hs hs2 hw hwh (k := pre.length) (by omega) (wordsF hLL.1) done s6 row
    have q3 := due_step3 X (hdE h) (wD done) (sD Ls) (.val (sD (wordsOf L))) pre.length (wrongP (wordsOf L) h.1 w done.getLast?) row
    have hk1 : (pre.length : Int) + 1 = (done.length : Int) + 2 := by omega
    rw [List.length_cons, List.range'_succ, List.map_cons, List.map_cons]
    rw [wrong_none] at q2 q3
    unfold rowsP
    cases e : faultP (wordsOf L) h.1 w with
    | inl f =>
      rw [e] at q2 q3
      refine ⟨_, for_rt hg (e2 := U15 X (n15 pre.length) (hdE h) (wD done) (sD Ls) (.val (sD (wordsOf L))) (.val (optI15 (some f))) row) ?_, rfl⟩
      rw [DBq_eq, seq_ok q1, seq_ok q2]
      dsimp only
      rw [← hk1]
      exact rt_ok15 q3
    | inr l =>
      rw [e] at q2 q3
      dsimp only at q2 q3 ⊢
      by_cases c : low15 l done.getLast? = true
      · rw [if_pos c] at q2 q3 ⊢
        refine ⟨_, for_rt hg (e2 := U15 X (n15 pre.length) (hdE h) (wD done) (sD Ls) (.val (sD (wordsOf L))) (.val (optI15 (some 0))) row) ?_, rfl⟩
        rw [DBq_eq, seq_ok q1, seq_ok q2]
        dsimp only
        rw [← hk1]
        exact rt_ok15 q3
      · rw [if_neg c] at q2 q3 ⊢
        have q4 := due_step4 (X := X) (Ls := Ls) (hd := hdE h) hs hs2 hw (k := pre.length) (by omega) e (done := done) (by omega) (.val (optI15 none)) row
        have hb : b__law_due_1 (U15 X (n15 pre.length) (hdE h) (wD done) (sD Ls) s5 s6 row) = .ok .nx (U15 X (n15 pre.length) (hdE h) (wD (done ++ [l])) (sD Ls) (.val (sD (wordsOf L))) (.val (optI15 none)) row) := by
          rw [DBq_eq, seq_ok q1, seq_ok q2, seq_ok q3]
          exact q4
        have ih := due_loop (X := X) (Ls := Ls) hs hs2 hw hwh row todo (pre ++ [L]) (done ++ [l]) (by rw [hLs]; simp) (by simp; omega) (fun x hx => hL x (List.mem_cons_of_mem _ hx)) (by rw [List.length_append, List.length_singleton]; omega) (n15 pre.length) (.val (sD (wordsOf L))) (.val (optI15 none))
        rw [for_nx hg hb]
        rw [last_snoc] at ih
        have e1 : (done ++ [l]).length = done.length + 1 := by simp
        have e0 : (pre ++ [L]).length = pre.length + 1 := by simp
        rw [e1, e0] at ih
        have e2 : ((done.length + 1 : Nat) : Int) + 2 = (done.length : Int) + 2 + 1 := by omega
        rw [e2] at ih
        cases e3 : rowsP h.1 w (todo.map wordsOf) (some l) ((done.length : Int) + 2 + 1) with
        | inl nf =>
          rw [e3] at ih
          exact ih
        | inr ls =>
          rw [e3] at ih
          dsimp only at ih ⊢
          rw [List.append_assoc] at ih
          exact ih
end
end Cut


set_option Elab.async false
set_option linter.all false
set_option maxRecDepth 100000
set_option maxHeartbeats 1000000
/-! P15f: a text read, and what is due. -/
namespace Cut
open PySem Mi
open TL (tl tl_append len_tl ext_tl joinL tl_join join_eq spl pre)
open L2 (atI ixN atI_nat)
noncomputable section
def RDq1 : M Fl := (asgO 1 (lcM (walkM (giveM (splitM (readM 0) (mapM' (pureM (.str "\n")) Ref.val)))) (gN 10) (pureM true) (c_read_2) [10]))
def RDq2 : M Fl := (asgG (callM F_head_in (consM (op2M (refM 1) (mapM' (pureM (.int 0)) Ref.val) ixF) (pureM []))) (gTupM 4 (gsCons (gN 3) (gsCons (gN 4) (gsCons (gN 5) (gsCons (gN 6) (gsNil)))))))
def RDq3 : M Fl := (asgO 2 (lstM (pureM [])))
def RDq4 : M Fl := (forL (listM (consM (sliceM (refM 1) (partM (pureM (.int 1))) (pureM none)) (pureM [])) enum1D) (gTupM 2 (gsCons (gN 7) (gsCons (gN 8) (gsNil))))
      (b_read_1))
def RDq5 : M Fl := (retM (callM F_Rule (consM (readM 3) (consM (readM 4) (consM (op1M (refM 2) tupleF) (consM (readM 5) (consM (readM 6) (pureM []))))))))
theorem RDq_eq : m_read = seqM RDq1 (seqM RDq2 (seqM RDq3 (seqM RDq4 RDq5))) := rfl
def DUq1 : M Fl := (parM [2, 3, 4] (consV (pureM .non) (consO (lstM (pureM [])) (consV (giveM (splitM (readM 0) (mapM' (pureM (.str "\n")) Ref.val))) (pureM [])))))
def DUq2 : M Fl := (forL (listM (consM (op1M (refM 4) lenF) (pureM [])) range1D) (gN 1)
      (b__law_due_1))
def DUq3 : M Fl := (retM (callM F_Rule (consM (op2M (refM 2) (mapM' (pureM (.int 0)) Ref.val) ixF) (consM (op2M (refM 2) (mapM' (pureM (.int 1)) Ref.val) ixF) (consM (op1M (refM 3) tupleF) (consM (op2M (refM 2) (mapM' (pureM (.int 2)) Ref.val) ixF) (consM (op2M (refM 2) (mapM' (pureM (.int 3)) Ref.val) ixF) (pureM []))))))))
theorem DUq_eq : m__law_due = seqM DUq1 (seqM DUq2 DUq3) := rfl
/-! what a text tells -/
def verd : List (List Str) → Sum (Int × Int) PR
  | [] => .inl (0, 0)
  | ws :: r => match headP ws with
    | .inl f => .inl (1, f)
    | .inr h => match rowsP h.1 h.2.1.toNat r none 2 with
      | .inl nf => .inl nf
      | .inr ls => .inr ⟨h.1, h.2.1.toNat, ls, h.2.2.1, h.2.2.2⟩
theorem verd_cons (ws : List Str) (r : List (List Str)) : verd (ws :: r) = match headP ws with
    | .inl f => .inl (1, f)
    | .inr h => match rowsP h.1 h.2.1.toNat r none 2 with
      | .inl nf => .inl nf
      | .inr ls => .inr ⟨h.1, h.2.1.toNat, ls, h.2.2.1, h.2.2.2⟩ := rfl
theorem verd_1 {ws : List Str} {r : List (List Str)} {f : Int} (e : headP ws = .inl f) : verd (ws :: r) = .inl (1, f) := by
  rw [verd_cons, e]
theorem verd_2 {ws : List Str} {r : List (List Str)} {h : Hd15} {nf : Int × Int} (e : headP ws = .inr h) (e2 : rowsP h.1 h.2.1.toNat r none 2 = .inl nf) : verd (ws :: r) = .inl nf := by
  rw [verd_cons, e]
  dsimp only
  rw [e2]
theorem verd_3 {ws : List Str} {r : List (List Str)} {h : Hd15} {ls : List (List Int)} (e : headP ws = .inr h) (e2 : rowsP h.1 h.2.1.toNat r none 2 = .inr ls) : verd (ws :: r) = .inr ⟨h.1, h.2.1.toNat, ls, h.2.2.1, h.2.2.2⟩ := by
  rw [verd_cons, e]
  dsimp only
  rw [e2]
theorem head_inr {ws : List Str} {h : Hd15} (e : headP ws = .inr h) : ws[0]? = some ("rule" : Str) ∧ numW ws 1 2 3 = some h.1 ∧ numW ws 2 1 3 = some h.2.1 ∧ numW ws 3 1 6 = some h.2.2.1 ∧ ((ws[4]? = some ("none" : Str) ∧ h.2.2.2 = none) ∨ (ws[4]? ≠ some ("none" : Str) ∧ ∃ d, numW ws 4 h.2.2.1 8 = some d ∧ h.2.2.2 = some d)) := by
  unfold headP at e
  by_cases r0 : ws[0]? = some ("rule" : Str)
  · rw [if_neg (by simp [r0])] at e
    cases e1 : numW ws 1 2 3 with
    | none => rw [e1] at e; cases e
    | some a =>
      rw [e1] at e
      dsimp only at e
      cases e2 : numW ws 2 1 3 with
      | none => rw [e2] at e; cases e
      | some b =>
        rw [e2] at e
        dsimp only at e
        cases e3 : numW ws 3 1 6 with
        | none => rw [e3] at e; cases e
        | some c =>
          rw [e3] at e
          dsimp only at e
          by_cases h4 : ws[4]? = some ("none" : Str)
          · rw [if_pos h4] at e
            dsimp only at e
            by_cases l5 : 5 < ws.length
            · rw [if_pos l5] at e; cases e
            · rw [if_neg l5] at e
              cases e
              exact ⟨r0, rfl, rfl, rfl, .inl ⟨h4, rfl⟩⟩
          · rw [if_neg h4] at e
            cases e4 : numW ws 4 c 8 with
            | none => rw [e4] at e; cases e
            | some d =>
              rw [e4] at e
              dsimp only [Option.map] at e
              by_cases l5 : 5 < ws.length
              · rw [if_pos l5] at e; cases e
              · rw [if_neg l5] at e
                cases e
                exact ⟨r0, rfl, rfl, rfl, .inr ⟨h4, d, e4, rfl⟩⟩
  · rw [if_pos r0] at e
    cases e
theorem verd_ok {wss : List (List Str)} {r : PR} (h : verd wss = .inr r) (hl : wss.length ≤ 1001) : r.Ok := by
  cases wss with
  | nil => cases h
  | cons ws rest =>
    rw [verd_cons] at h
    cases e : headP ws with
    | inl f => rw [e] at h; cases h
    | inr hd =>
      rw [e] at h
      dsimp only at h
      cases e2 : rowsP hd.1 hd.2.1.toNat rest none 2 with
      | inl nf => rw [e2] at h; cases h
      | inr ls =>
        rw [e2] at h
        cases h
        obtain ⟨_, h1, h2, h3, h4⟩ := head_inr e
        obtain ⟨_, a1, a2⟩ := numW_some h1
        obtain ⟨_, b1, b2⟩ := numW_some h2
        obtain ⟨_, c1, c2⟩ := numW_some h3
        obtain ⟨i1, i2, i3⟩ := rows_ok e2
        rw [List.length_cons] at hl
        refine ⟨a1, a2, ?_, ?_, i2, i3, c1, c2, fun x hx => ?_, ?_⟩
        · show 1 ≤ hd.2.1.toNat
          omega
        · show hd.2.1.toNat ≤ 3
          omega
        · rcases h4 with ⟨_, z⟩ | ⟨_, d, hn, z⟩
          · have hx : hd.2.2.2 = some x := hx
            rw [z] at hx
            cases hx
          · have hx : hd.2.2.2 = some x := hx
            rw [z] at hx
            cases hx
            obtain ⟨_, d1, d2⟩ := numW_some hn
            exact ⟨d1, d2⟩
        · show ls.length ≤ 1000
          omega
def outD : Sum (Int × Int) PR → D
  | .inl nf => .lst [.str "line", .int nf.1, .int nf.2]
  | .inr r => r.d
/-- a text of lines -/
structure TextOk (X : Str) (Ls : List Str) : Prop where
  spl : Txt.split X "\n" = Ls
  xl : X.length ≤ 1000000
  ne : Ls ≠ []
  len : Ls.length ≤ 1001
  all : ∀ L ∈ Ls, LF L
theorem e_read15 {X : Str} {Ls : List Str} (ok : TextOk X Ls) (row : RowS) : F_read [.str X] row = match verd (Ls.map wordsOf) with
    | .inl nf => .exc (bad15 nf.2 nf.1) row
    | .inr r => .ret r.d row := by
  have hsp := split_ok (a := X) (b := "\n") (by decide) ok.xl
  rw [ok.spl] at hsp
  have hlen := ok.len
  have hall := ok.all
  have hne := ok.ne
  have hc := lc_enc (g := gN 10) (t := pureM true) (el := c_read_2) (vs := [10]) (e := ⟨[.val (.str X), .no, .no, .no, .no, .no, .no, .no, .no, .no, .no], row⟩) (e0 := ⟨[.val (.str X), .no, .no, .no, .no, .no, .no, .no, .no, .no, .no], row⟩) (enc := D.str) (fun _ => true) (fun L => sD (wordsOf L)) rfl rfl rfl Ls (by omega) (fun L h => ⟨⟨[.val (.str X), .no, .no, .no, .no, .no, .no, .no, .no, .no, .val (.str L)], row⟩, rfl, rfl, fun _ => e_lineW15 (hall L h) (.str X) row, rfl⟩)
  rw [show Ls.filter (fun _ => true) = Ls from List.filter_eq_self.mpr fun _ _ => rfl] at hc
  cases Ls with
  | nil => exact absurd rfl hne
  | cons L0 todo =>
    rw [List.length_cons] at hlen
    have hf0 := wordsF (hall L0 List.mem_cons_self).1
    have p1 : RDq1 ⟨[.val (.str X), .no, .no, .no, .no, .no, .no, .no, .no, .no, .no], row⟩ = .ok .nx ⟨[.val (.str X), .own (.lst ((L0 :: todo).map fun L => sD (wordsOf L))), .no, .no, .no, .no, .no, .no, .no, .no, .no], row⟩ := by
      generalize (L0 :: todo).map (fun L => sD (wordsOf L)) = lns at *
      generalize (L0 :: todo).map D.str = ld at *
      have hit : itemsD (.lst ld) = some ld := rfl
      simp [RDq1, hsp, hit, hc]
    have hix : ixF (.lst ((L0 :: todo).map fun L => sD (wordsOf L))) (.int 0) = some (sD (wordsOf L0)) := at_nat (n := 0) rfl
    have hh := e_head hf0 row
    have hx : ∀ {x : Exn} {e : Mi.Env}, m_read ⟨[.val (.str X), .no, .no, .no, .no, .no, .no, .no, .no, .no, .no], row⟩ = .exc x e → e.row = row → F_read [.str X] row = .exc x row := fun h hr => fn_exc h hr
    rw [List.map_cons]
    cases e : headP (wordsOf L0) with
    | inl f =>
      rw [e] at hh
      rw [verd_1 e]
      have hh : F_head_in [sD (wordsOf L0)] row = .exc (bad15 f 1) row := hh
      have hod : OD.d (.lst ((L0 :: todo).map fun L => sD (wordsOf L))) = .lst ((L0 :: todo).map fun L => sD (wordsOf L)) := rfl
      have p2 : RDq2 ⟨[.val (.str X), .own (.lst ((L0 :: todo).map fun L => sD (wordsOf L))), .no, .no, .no, .no, .no, .no, .no, .no, .no], row⟩ = .exc (bad15 f 1) ⟨[.val (.str X), .own (.lst ((L0 :: todo).map fun L => sD (wordsOf L))), .no, .no, .no, .no, .no, .no, .no, .no, .no], row⟩ := by
        generalize (L0 :: todo).map (fun L => sD (wordsOf L)) = lns at *
        generalize sD (wordsOf L0) = wd at *
        generalize bad15 f 1 = bx at *
        simp [RDq2, hix, hh]
      exact hx (by rw [RDq_eq, seq_ok p1]; exact exc_ok p2) rfl
    | inr h =>
      rw [e] at hh
      have hh : F_head_in [sD (wordsOf L0)] row = .ret (.tup [.int h.1, .int h.2.1, .int h.2.2.1, hD h.2.2.2]) row := hh
      obtain ⟨_, h1, h2, h3, h4⟩ := head_inr e
      obtain ⟨_, a1, a2⟩ := numW_some h1
      obtain ⟨_, b1, b2⟩ := numW_some h2
      have hwn : h.2.1 = ((h.2.1.toNat : Nat) : Int) := by omega
      have p2 : RDq2 ⟨[.val (.str X), .own (.lst ((L0 :: todo).map fun L => sD (wordsOf L))), .no, .no, .no, .no, .no, .no, .no, .no, .no], row⟩ = .ok .nx ⟨[.val (.str X), .own (.lst ((L0 :: todo).map fun L => sD (wordsOf L))), .no, .val (.int h.1), .val (.int h.2.1), .val (.int h.2.2.1), .val (hD h.2.2.2), .no, .no, .no, .no], row⟩ := by
        generalize (L0 :: todo).map (fun L => sD (wordsOf L)) = lns at *
        generalize sD (wordsOf L0) = wd at *
        generalize hD h.2.2.2 = hi at *
        simp [RDq2, hix, hh]
      have p3 : RDq3 ⟨[.val (.str X), .own (.lst ((L0 :: todo).map fun L => sD (wordsOf L))), .no, .val (.int h.1), .val (.int h.2.1), .val (.int h.2.2.1), .val (hD h.2.2.2), .no, .no, .no, .no], row⟩ = .ok .nx (V15 (.str X) ((L0 :: todo).map fun L => sD (wordsOf L)) [] (.int h.1) (.int h.2.1) (.int h.2.2.1) (hD h.2.2.2) .no .no .no row) := by
        generalize (L0 :: todo).map (fun L => sD (wordsOf L)) = lns at *
        generalize hD h.2.2.2 = hi at *
        simp [RDq3]
      have hcut : cutF (.lst ((L0 :: todo).map fun L => sD (wordsOf L))) (some 1) none = some (.lst ((todo.map wordsOf).map sD)) := by
        have := cutF_from ((L0 :: todo).map fun L => sD (wordsOf L)) 1
        rw [List.map_map]
        exact this
      have hen : enum1D [.lst ((todo.map wordsOf).map sD)] = some (enumF sD 0 (todo.map wordsOf)) := by
        show some (enumL _) = _
        rw [enumL_map sD (todo.map wordsOf)]
      have lo := read_loop15 (.str X) ((L0 :: todo).map fun L => sD (wordsOf L)) (s := h.1) (by omega) (by omega) (w := h.2.1.toNat) (by omega) (.int h.2.2.1) (hD h.2.2.2) row (todo.map wordsOf) [] (fun ws hws => by
        obtain ⟨L, hL, rfl⟩ := List.mem_map.mp hws
        exact wordsF (hall L (List.mem_cons_of_mem _ hL)).1) (by rw [List.length_map, List.length_nil]; omega) .no .no .no
      rw [← hwn] at lo
      have hw0 : wD [] = [] := rfl
      have hl2 : (([] : List (List Int)).length : Int) + 2 = 2 := rfl
      have hl3 : ([] : List (List Int)).getLast? = none := rfl
      have hl4 : ([] : List (List Int)).length = 0 := rfl
      rw [hw0, hl2, hl3, hl4] at lo
      have hod : OD.d (.lst ((L0 :: todo).map fun L => sD (wordsOf L))) = .lst ((L0 :: todo).map fun L => sD (wordsOf L)) := rfl
      cases e2 : rowsP h.1 h.2.1.toNat (todo.map wordsOf) none 2 with
      | inl nf =>
        rw [e2] at lo
        rw [verd_2 e e2]
        obtain ⟨e', lo, hrow⟩ := lo
        have p4 : RDq4 (V15 (.str X) ((L0 :: todo).map fun L => sD (wordsOf L)) [] (.int h.1) (.int h.2.1) (.int h.2.2.1) (hD h.2.2.2) .no .no .no row) = .exc (bad15 nf.2 nf.1) e' := by
          generalize (L0 :: todo).map (fun L => sD (wordsOf L)) = lns at *
          generalize hD h.2.2.2 = hi at *
          generalize enumF sD 0 (todo.map wordsOf) = en at *
          generalize (todo.map wordsOf).map sD = tl1 at *
          generalize bad15 nf.2 nf.1 = bx at *
          simp [RDq4, forL, hcut, hen]
          exact lo
        exact hx (by rw [RDq_eq, seq_ok p1, seq_ok p2, seq_ok p3]; exact exc_ok p4) hrow
      | inr ls =>
        rw [e2] at lo
        rw [verd_3 e e2]
        obtain ⟨s7', s8', s9', lo⟩ := lo
        rw [List.nil_append] at lo
        have p4 : RDq4 (V15 (.str X) ((L0 :: todo).map fun L => sD (wordsOf L)) [] (.int h.1) (.int h.2.1) (.int h.2.2.1) (hD h.2.2.2) .no .no .no row) = .ok .nx (V15 (.str X) ((L0 :: todo).map fun L => sD (wordsOf L)) (wD ls) (.int h.1) (.int h.2.1) (.int h.2.2.1) (hD h.2.2.2) s7' s8' s9' row) := by
          generalize (L0 :: todo).map (fun L => sD (wordsOf L)) = lns at *
          generalize hD h.2.2.2 = hi at *
          generalize wD ls = dd at *
          generalize enumF sD 0 (todo.map wordsOf) = en at *
          generalize (todo.map wordsOf).map sD = tl1 at *
          simp [RDq4, forL, hcut, hen]
          exact lo
        clear lo
        have hv : verd ((L0 :: todo).map wordsOf) = .inr ⟨h.1, h.2.1.toNat, ls, h.2.2.1, h.2.2.2⟩ := verd_3 e e2
        have rok := verd_ok hv (by rw [List.length_map, List.length_cons]; omega)
        have hru : F_Rule [.int h.1, .int h.2.1, .tup (wD ls), .int h.2.2.1, hD h.2.2.2] row = .ret (PR.d ⟨h.1, h.2.1.toNat, ls, h.2.2.1, h.2.2.2⟩) row := by
          have := e_Rule rok row
          unfold PR.ds at this
          dsimp only at this
          rw [← hwn] at this
          exact this
        have htu : tupleF (.lst (wD ls)) = some (.tup (wD ls)) := rfl
        refine fn_ret (e := V15 (.str X) ((L0 :: todo).map fun L => sD (wordsOf L)) (wD ls) (.int h.1) (.int h.2.1) (.int h.2.2.1) (hD h.2.2.2) s7' s8' s9' row) ?_ rfl
        show m_read ⟨[.val (.str X), .no, .no, .no, .no, .no, .no, .no, .no, .no, .no], row⟩ = _
        rw [RDq_eq, seq_ok p1, seq_ok p2, seq_ok p3, seq_ok p4]
        show _ = Res.ok (Fl.rt (PR.d ⟨h.1, h.2.1.toNat, ls, h.2.2.1, h.2.2.2⟩)) _
        generalize PR.d ⟨h.1, h.2.1.toNat, ls, h.2.2.1, h.2.2.2⟩ = rd at *
        generalize (L0 :: todo).map (fun L => sD (wordsOf L)) = lns at *
        generalize hD h.2.2.2 = hi at *
        generalize wD ls = dd at *
        simp [RDq5, htu, hru]
end
end Cut


set_option Elab.async false
set_option linter.all false
set_option maxRecDepth 100000
set_option maxHeartbeats 1000000
/-! P15g: what is due; what is told. -/
namespace Cut
open PySem Mi
open TL (tl tl_append len_tl ext_tl joinL tl_join join_eq spl pre)
open L2 (atI ixN atI_nat)
noncomputable section
theorem eq0_0 : eqF (n15 0) (.int 0) = some (.bl true) := by simp [n15]
theorem due_first2 {X : D} {lines : D} {ws : List Str} (hf : AllF ws) (done : List D) (s6 : Mi.Slot) (row : RowS) :
    DBq2 (U15 X (n15 0) .non done lines (.own (.lst (ws.map D.str))) s6 row) = .ok .nx (U15 X (n15 0) .non done lines (.val (sD ws)) (.val (rsD (headP ws))) row) := by
  have hz := eq0_0
  have hod : OD.d (.lst (ws.map D.str)) = sD ws := rfl
  have b := e_law_first hf row
  generalize rsD (headP ws) = o at *
  generalize OD.lst (ws.map D.str) = od at *
  generalize sD ws = wd at *
  generalize n15 0 = kd at *
  simp [DBq2, hz, b, hod]
theorem due_first4 {X : D} {lines : D} {ws : List Str} {h : Hd15} (hf : AllF ws) (e : headP ws = .inr h) (done : List D) (s6 : Mi.Slot) (row : RowS) :
    DBq4 (U15 X (n15 0) .non done lines (.val (sD ws)) s6 row) = .ok .nx (U15 X (n15 0) (hdE h) done lines (.val (sD ws)) s6 row) := by
  have hz := eq0_0
  obtain ⟨_, h1, h2, h3, h4⟩ := head_inr e
  obtain ⟨w1, a1, a2⟩ := numW_some h1
  obtain ⟨w2, b1, b2⟩ := numW_some h2
  obtain ⟨w3, c1, c2⟩ := numW_some h3
  have i1 : ixF (sD ws) (.int 1) = some (.str (nS h.1)) := ix_sD (k := 1) w1
  have i2 : ixF (sD ws) (.int 2) = some (.str (nS h.2.1)) := ix_sD (k := 2) w2
  have i3 : ixF (sD ws) (.int 3) = some (.str (nS h.2.2.1)) := ix_sD (k := 3) w3
  have t1 := int_nS (n := h.1) (by omega) (by omega)
  have t2 := int_nS (n := h.2.1) (by omega) (by omega)
  have t3 := int_nS (n := h.2.2.1) (by omega) (by omega)
  have hod : ∀ X : List D, OD.d (.lst X) = .lst X := fun _ => rfl
  rcases h4 with ⟨h4, hn⟩ | ⟨h4, d, hd, hn⟩
  · have i4 : ixF (sD ws) (.int 4) = some (.str "none") := ix_sD (k := 4) h4
    have q := eq_sD (l := ["none"]) (m := ["none"]) (fun x hx => by rw [List.mem_singleton.mp hx]; exact fine_none) (fun x hx => by rw [List.mem_singleton.mp hx]; exact fine_none)
    have q4 : eqF (.str "none") (.str "none") = some (.bl true) := by
      have := eq_self (d := .str "none") (fine_none.plain 60)
      exact this
    unfold hdE
    rw [hn]
    generalize sD ws = wd at *
    generalize n15 0 = kd at *
    simp [DBq4, hz, i1, i2, i3, i4, t1, t2, t3, q4, hod, hD]
  · obtain ⟨w4, d1, d2⟩ := numW_some hd
    have i4 : ixF (sD ws) (.int 4) = some (.str (nS d)) := ix_sD (k := 4) w4
    have t4 := int_nS (n := d) (by omega) (by omega)
    have q4 : eqF (.str (nS d)) (.str "none") = some (.bl false) := by
      have := ne_none (h := d) (by omega) (by omega)
      unfold eqF
      rw [(nS_fine (n := d) (by omega) (by omega)).plain, fine_none.plain]
      show some (D.bl ((D.str (nS d)).eqv (.str "none"))) = _
      rw [eqv_s, decide_eq_false this]
    unfold hdE
    rw [hn]
    generalize sD ws = wd at *
    generalize n15 0 = kd at *
    simp [DBq4, hz, i1, i2, i3, i4, t1, t2, t3, t4, q4, hod, hD]
theorem e_due15 {X : Str} {Ls : List Str} (ok : TextOk X Ls) (row : RowS) : F__law_due [.str X] row = .ret (outD (verd (Ls.map wordsOf))) row := by
  have hsp := split_ok (a := X) (b := "\n") (by decide) ok.xl
  rw [ok.spl] at hsp
  have hlen := ok.len
  have hall := ok.all
  have hne := ok.ne
  cases Ls with
  | nil => exact absurd rfl hne
  | cons L0 todo =>
    rw [List.length_cons] at hlen
    have hL0 := hall L0 List.mem_cons_self
    have hf0 := wordsF hL0.1
    have hll := len_sD (L0 :: todo)
    have hr : range1D [.int ((L0 :: todo).length : Int)] = some (n15 0 :: (List.range' 1 todo.length).map n15) := by
      rw [range1_ok (okI_small (by omega) (by rw [List.length_cons]; omega))]
      have := rngL_n15 0 (todo.length + 1)
      rw [Nat.zero_add] at this
      rw [List.range'_succ, List.map_cons] at this
      rw [List.length_cons]
      exact congrArg some this
    have hod0 : OD.d (.lst ((L0 :: todo).map D.str)) = sD (L0 :: todo) := rfl
    have p1 : DUq1 ⟨[.val (.str X), .no, .no, .no, .no, .no, .no, .no], row⟩ = .ok .nx ⟨[.val (.str X), .no, .val .non, .own (.lst []), .val (sD (L0 :: todo)), .no, .no, .no], row⟩ := by
      generalize sD (L0 :: todo) = lsd at *
      generalize OD.lst ((L0 :: todo).map D.str) = od at *
      simp [DUq1, hsp, hod0]
    have hx : ∀ {d : D} {e : Mi.Env}, m__law_due ⟨[.val (.str X), .no, .no, .no, .no, .no, .no, .no], row⟩ = .ok (.rt d) e → e.row = row → F__law_due [.str X] row = .ret d row := fun h hr => fn_ret h hr
    have hg : gN 1 (n15 0) ⟨[.val (.str X), .no, .val .non, .own (.lst []), .val (sD (L0 :: todo)), .no, .no, .no], row⟩ = .ok () (U15 (.str X) (n15 0) .non [] (sD (L0 :: todo)) .no .no row) := by
      generalize sD (L0 :: todo) = lsd at *
      generalize n15 0 = kd at *
      simp
    have q1 := due_w (X := .str X) (Ls := L0 :: todo) (k := 0) rfl hL0 .non [] .no .no row
    have q2 := due_first2 (X := .str X) (lines := sD (L0 :: todo)) hf0 [] .no row
    rw [List.map_cons]
    have pre2 : DUq2 ⟨[.val (.str X), .no, .val .non, .own (.lst []), .val (sD (L0 :: todo)), .no, .no, .no], row⟩ = forM' (gN 1) b__law_due_1 (n15 0 :: (List.range' 1 todo.length).map n15) ⟨[.val (.str X), .no, .val .non, .own (.lst []), .val (sD (L0 :: todo)), .no, .no, .no], row⟩ := by
      generalize n15 0 :: (List.range' 1 todo.length).map n15 = rl at *
      generalize ((L0 :: todo).length : Int) = nn at *
      generalize sD (L0 :: todo) = lsd at *
      simp [DUq2, forL, hll, hr]
    cases e : headP (wordsOf L0) with
    | inl f =>
      rw [e] at q2
      rw [verd_1 e]
      have q3 := due_step3 (.str X) .non [] (sD (L0 :: todo)) (.val (sD (wordsOf L0))) 0 (some f) row
      refine hx (e := U15 (.str X) (n15 0) .non [] (sD (L0 :: todo)) (.val (sD (wordsOf L0))) (.val (optI15 (some f))) row) ?_ rfl
      rw [DUq_eq, seq_ok p1]
      refine rt_ok15 ?_
      rw [pre2]
      refine for_rt hg ?_
      rw [DBq_eq, seq_ok q1]
      have q2 : DBq2 (U15 (.str X) (n15 0) .non [] (sD (L0 :: todo)) (.own (.lst ((wordsOf L0).map D.str))) .no row) = .ok .nx (U15 (.str X) (n15 0) .non [] (sD (L0 :: todo)) (.val (sD (wordsOf L0))) (.val (optI15 (some f))) row) := q2
      rw [seq_ok q2]
      exact rt_ok15 q3
    | inr h =>
      rw [e] at q2
      have q2 : DBq2 (U15 (.str X) (n15 0) .non [] (sD (L0 :: todo)) (.own (.lst ((wordsOf L0).map D.str))) .no row) = .ok .nx (U15 (.str X) (n15 0) .non [] (sD (L0 :: todo)) (.val (sD (wordsOf L0))) (.val (optI15 none)) row) := q2
      have q3 := due_step3 (.str X) .non [] (sD (L0 :: todo)) (.val (sD (wordsOf L0))) 0 none row
      have q4 := due_first4 (X := .str X) (lines := sD (L0 :: todo)) hf0 e [] (.val (optI15 none)) row
      obtain ⟨_, h1, h2, h3, h4⟩ := head_inr e
      obtain ⟨_, a1, a2⟩ := numW_some h1
      obtain ⟨_, b1, b2⟩ := numW_some h2
      have hwn : h.2.1 = ((h.2.1.toNat : Nat) : Int) := by omega
      have hb : b__law_due_1 (U15 (.str X) (n15 0) .non [] (sD (L0 :: todo)) .no .no row) = .ok .nx (U15 (.str X) (n15 0) (hdE h) [] (sD (L0 :: todo)) (.val (sD (wordsOf L0))) (.val (optI15 none)) row) := by
        rw [DBq_eq, seq_ok q1, seq_ok q2, seq_ok q3]
        exact q4
      have lo := due_loop (X := .str X) (Ls := L0 :: todo) (h := h) (by omega) (by omega) (w := h.2.1.toNat) (by omega) hwn row todo [L0] [] rfl rfl (fun L hL => hall L (List.mem_cons_of_mem _ hL)) (by rw [List.length_nil]; omega) (n15 0) (.val (sD (wordsOf L0))) (.val (optI15 none))
      have hw0 : wD [] = [] := rfl
      have hl2 : (([] : List (List Int)).length : Int) + 2 = 2 := rfl
      have hl3 : ([] : List (List Int)).getLast? = none := rfl
      have hl4 : ([L0] : List Str).length = 1 := rfl
      rw [hw0, hl2, hl3, hl4] at lo
      cases e2 : rowsP h.1 h.2.1.toNat (todo.map wordsOf) none 2 with
      | inl nf =>
        rw [e2] at lo
        rw [verd_2 e e2]
        obtain ⟨e', lo, hrow⟩ := lo
        refine hx (e := e') ?_ hrow
        rw [DUq_eq, seq_ok p1]
        refine rt_ok15 ?_
        rw [pre2, for_nx hg hb]
        exact lo
      | inr ls =>
        rw [e2] at lo
        obtain ⟨s1', s5', s6', lo⟩ := lo
        rw [List.nil_append] at lo
        have hv : verd ((L0 :: todo).map wordsOf) = .inr ⟨h.1, h.2.1.toNat, ls, h.2.2.1, h.2.2.2⟩ := verd_3 e e2
        rw [verd_3 e e2]
        have p2 : DUq2 ⟨[.val (.str X), .no, .val .non, .own (.lst []), .val (sD (L0 :: todo)), .no, .no, .no], row⟩ = .ok .nx (U15 (.str X) s1' (hdE h) (wD ls) (sD (L0 :: todo)) s5' s6' row) := by
          rw [pre2, for_nx hg hb]
          exact lo
        have rok := verd_ok hv (by rw [List.length_map, List.length_cons]; omega)
        have hru : F_Rule [.int h.1, .int h.2.1, .tup (wD ls), .int h.2.2.1, hD h.2.2.2] row = .ret (PR.d ⟨h.1, h.2.1.toNat, ls, h.2.2.1, h.2.2.2⟩) row := by
          have := e_Rule rok row
          unfold PR.ds at this
          dsimp only at this
          rw [← hwn] at this
          exact this
        have htu : tupleF (.lst (wD ls)) = some (.tup (wD ls)) := rfl
        have i0 : ixF (hdE h) (.int 0) = some (.int h.1) := rfl
        have i1 : ixF (hdE h) (.int 1) = some (.int h.2.1) := rfl
        have i2 : ixF (hdE h) (.int 2) = some (.int h.2.2.1) := rfl
        have i3 : ixF (hdE h) (.int 3) = some (hD h.2.2.2) := rfl
        refine hx (e := U15 (.str X) s1' (hdE h) (wD ls) (sD (L0 :: todo)) s5' s6' row) ?_ rfl
        rw [DUq_eq, seq_ok p1, seq_ok p2]
        show _ = Res.ok (Fl.rt (PR.d ⟨h.1, h.2.1.toNat, ls, h.2.2.1, h.2.2.2⟩)) _
        generalize PR.d ⟨h.1, h.2.1.toNat, ls, h.2.2.1, h.2.2.2⟩ = rd at *
        generalize sD (L0 :: todo) = lsd at *
        generalize hD h.2.2.2 = hi at *
        generalize hdE h = hh at *
        generalize wD ls = dd at *
        simp [DUq3, htu, hru, i0, i1, i2, i3]
/-! told -/
def txR (cs : List Str) (hs : List (Str × Nat × (Exn → M Fl))) (r : Res Fl) : Res Fl := match r with
  | .exc x e' => tryHX cs x e' hs
  | r => r
@[simp] theorem txR_ok (cs : List Str) (hs : List (Str × Nat × (Exn → M Fl))) (fl : Fl) (e : Mi.Env) : txR cs hs (.ok fl e) = .ok fl e := rfl
@[simp] theorem txR_exc (cs : List Str) (hs : List (Str × Nat × (Exn → M Fl))) (x : Exn) (e : Mi.Env) : txR cs hs (.exc x e) = tryHX cs x e hs := rfl
@[simp ↓] theorem tryMX_app (cs : List Str) (b : M Fl) (hs : List (Str × Nat × (Exn → M Fl))) (e : Mi.Env) : tryMX cs b hs e = txR cs hs (b e) := by
  unfold tryMX txR
  cases b e <;> rfl
theorem tx_hit {cs : List Str} {c d : Str} {fs : List (Str × D)} {i : Nat} {m : Exn → M Fl} {hs : List (Str × Nat × (Exn → M Fl))} {e : Mi.Env} (h1 : (cs.contains c && !(d == "CutError")) = true) (h2 : exSub c d = true) : tryHX cs ⟨c, fs⟩ e ((d, i, m) :: hs) = hdM i (m ⟨c, fs⟩) e := by
  unfold tryHX
  simp only [h1, if_true, h2]
theorem told15 {X : Str} {Ls : List Str} (ok : TextOk X Ls) (row : RowS) : F__law_told_there [.str X] row = .ret (outD (verd (Ls.map wordsOf))) row := by
  have h := e_read15 ok row
  cases e : verd (Ls.map wordsOf) with
  | inl nf =>
    rw [e] at h
    have h : F_read [.str X] row = .exc (bad15 nf.2 nf.1) row := h
    have h2 : tryHX errs (bad15 nf.2 nf.1) ⟨[.val (.str X), .val .non, .no], row⟩ [("BadLine", 2, fun x => asgM 1 ((errL2 "line" "line" "word") x))] = .ok .nx ⟨[.val (.str X), .val (outD (.inl nf)), .no], row⟩ := by
      unfold bad15
      rw [tx_hit (by decide) (by decide)]
      have hl : errL2 "line" "line" "word" ⟨"BadLine", [("word", .int nf.2), ("line", .int nf.1)]⟩ = pureM (outD (.inl nf)) := rfl
      rw [hl]
      generalize outD (.inl nf) = o at *
      simp [hdM]
    generalize outD (.inl nf) = o at *
    generalize bad15 nf.2 nf.1 = bx at *
    simp [F__law_told_there, fnM_app, m__law_told_there, h, h2]
  | inr r =>
    rw [e] at h
    have h : F_read [.str X] row = .ret (outD (.inr r)) row := h
    generalize outD (.inr r) = o at *
    simp [F__law_told_there, fnM_app, m__law_told_there, h]
end
end Cut


set_option Elab.async false
set_option linter.all false
set_option maxRecDepth 100000
set_option maxHeartbeats 1000000
/-! P15h: a line spoilt. -/
namespace Cut
open PySem Mi
open TL (tl tl_append len_tl ext_tl joinL tl_join join_eq spl pre)
open L2 (atI ixN atI_nat)
noncomputable section
def SPq1 : M Fl := (asgM 2 (giveM (splitM (readM 1) (mapM' (pureM (.str " ")) Ref.val))))
def SPq2 : M Fl := (parM [4, 5] (consV (callM F__law_pick (consM (readM 0) (consM (op1M (refM 2) lenF) (pureM [])))) (consV (callM F__law_pick (consM (readM 0) (consM (pureM (.int 6)) (pureM [])))) (pureM []))))
def SPq3 : M Fl := (asgM 3 (giveM (lstM (consM (pureM (.str "")) (consM (pureM (.str "0")) (consM (pureM (.str "1")) (consM (pureM (.str "2")) (consM (pureM (.str "3")) (consM (pureM (.str "4")) (consM (pureM (.str "6")) (consM (pureM (.str "8")) (consM (pureM (.str "9")) (consM (pureM (.str "-1")) (consM (pureM (.str "01")) (consM (pureM (.str "rule")) (consM (pureM (.str "word")) (consM (pureM (.str "none")) (consM (pureM (.str "x")) (consM (pureM (.str "10")) (pureM []))))))))))))))))))))
def SPq4 : M Fl := (iteM (testM (op2M (refM 5) (mapM' (pureM (.int 0)) Ref.val) eqF))
      (retM (joinM (pureM (.str " ")) (mapM' (op2M (mapM' (sliceM (refM 2) (pureM none) (partM (readM 4))) Ref.val) (mapM' (sliceM (refM 2) (partM (op2M (refM 4) (mapM' (pureM (.int 1)) Ref.val) addF)) (pureM none)) Ref.val) addF) Ref.val)))
      (nxM))
def SPq5 : M Fl := (iteM (testM (op2M (refM 5) (mapM' (pureM (.int 1)) Ref.val) eqF))
      (retM (joinM (pureM (.str " ")) (mapM' (op2M (mapM' (op2M (mapM' (sliceM (refM 2) (pureM none) (partM (readM 4))) Ref.val) (mapM' (giveM (lstM (consM (op2M (refM 2) (refM 4) ixF) (pureM [])))) Ref.val) addF) Ref.val) (mapM' (sliceM (refM 2) (partM (readM 4)) (pureM none)) Ref.val) addF) Ref.val)))
      (nxM))
def SPq6 : M Fl := (iteM (testM (op2M (refM 5) (mapM' (pureM (.int 2)) Ref.val) eqF))
      (retM (joinM (pureM (.str " ")) (mapM' (sliceM (refM 2) (pureM none) (partM (readM 4))) Ref.val)))
      (nxM))
def SPq7 : M Fl := (retM (joinM (pureM (.str " ")) (mapM' (op2M (mapM' (op2M (mapM' (sliceM (refM 2) (pureM none) (partM (readM 4))) Ref.val) (mapM' (giveM (lstM (consM (op2M (refM 3) (mapM' (callM F__law_pick (consM (readM 0) (consM (pureM (.int 16)) (pureM [])))) Ref.val) ixF) (pureM [])))) Ref.val) addF) Ref.val) (mapM' (sliceM (refM 2) (partM (op2M (refM 4) (mapM' (op1M (mapM' (op2M (refM 5) (mapM' (pureM (.int 5)) Ref.val) (ordF .lt)) Ref.val) toIntF) Ref.val) addF)) (pureM none)) Ref.val) addF) Ref.val)))
theorem SPq_eq : m__law_spoilt = seqM SPq1 (seqM SPq2 (seqM SPq3 (seqM SPq4 (seqM SPq5 (seqM SPq6 SPq7))))) := rfl
/-! sizes -/
def tot (ws : List Str) : Nat := (ws.map (·.length)).sum + ws.length
theorem tot_app (a b : List Str) : tot (a ++ b) = tot a + tot b := by
  unfold tot
  rw [List.map_append, List.sum_append, List.length_append]
  omega
theorem tot_one (x : Str) : tot [x] = x.length + 1 := by
  unfold tot
  simp
theorem tot_take (ws : List Str) (k : Nat) : tot (ws.take k) + tot (ws.drop k) = tot ws := by
  rw [← tot_app, List.take_append_drop]
theorem tot_mem {ws : List Str} {x : Str} (h : x ∈ ws) : x.length + 1 ≤ tot ws := by
  obtain ⟨a, b, rfl⟩ := List.append_of_mem h
  rw [tot_app, show x :: b = [x] ++ b from rfl, tot_app, tot_one]
  omega
theorem spl_tot : ∀ (l acc : List Nat), ((spl [32] 0 acc l).map List.length).sum + (spl [32] 0 acc l).length = acc.length + l.length + 1
  | [], acc => by rw [TL.spl_nil]; simp
  | a :: r, acc => by
    by_cases h : pre [32] (a :: r) = true
    · rw [TL.spl_hit h]
      have := spl_tot r []
      have e : ([32] : List Nat).length - 1 = 0 := rfl
      rw [e, List.map_cons, List.sum_cons, List.length_cons, List.length_cons]
      simp only [List.length_nil] at this
      omega
    · rw [TL.spl_miss (by simpa using h)]
      have := spl_tot r (acc ++ [a])
      rw [List.length_append, List.length_singleton] at this
      rw [List.length_cons]
      omega
theorem split_tot (L : Str) : tot (Txt.split L " ") = L.length + 1 := by
  have e := TL.split_spl L (" " : Str) (by decide) (TL.kind_ok (by decide +kernel))
  rw [tl_space] at e
  have h := spl_tot (tl L) []
  rw [← e, List.map_map, List.length_map] at h
  unfold tot
  have e2 : (List.length ∘ tl) = fun x : Str => x.length := funext fun x => (len_tl x).symm
  rw [e2] at h
  rw [len_tl L, h]
  simp
/-- clean: all can lay it, no line ends in it -/
def Cl (w : Str) : Prop := Fine w ∧ 10 ∉ tl w
def LB (B : Nat) (L : Str) : Prop := Cl L ∧ L.length ≤ B
theorem LB.mono {B C : Nat} {L : Str} (h : LB B L) (hc : B ≤ C) : LB C L := ⟨h.1, Nat.le_trans h.2 hc⟩
theorem split_cl {L : Str} (h : Cl L) : ∀ w ∈ Txt.split L " ", Cl w := fun w hw => by
  have e := TL.split_spl L (" " : Str) (by decide) (TL.kind_ok (by decide +kernel))
  have hm : tl w ∈ spl (tl (" " : Str)) 0 [] (tl L) := by
    rw [← e]
    exact List.mem_map_of_mem hw
  refine ⟨split_fine h.1 w hw, fun hc => ?_⟩
  rcases spl_mem _ _ _ _ _ hm 10 hc with z | z
  · cases z
  · exact h.2 z
theorem mem_joinL {S : List Nat} {c : Nat} : ∀ {ps : List (List Nat)}, c ∈ joinL S ps → c ∈ S ∨ ∃ p ∈ ps, c ∈ p
  | [], h => by cases h
  | [p], h => .inr ⟨p, List.mem_singleton.mpr rfl, h⟩
  | p :: q :: r, h => by
    have h' : c ∈ p ++ (S ++ joinL S (q :: r)) := h
    rcases List.mem_append.mp h' with z | z
    · exact .inr ⟨p, List.mem_cons_self, z⟩
    · rcases List.mem_append.mp z with z | z
      · exact .inl z
      · rcases mem_joinL z with z | ⟨x, hx, hc⟩
        · exact .inl z
        · exact .inr ⟨x, List.mem_cons_of_mem _ hx, hc⟩
theorem fine_join {a : Str} (ha : Fine a) {l : List Str} (h : ∀ w ∈ l, Fine w) : Fine (Txt.join a l) := by
  intro c hc
  rw [join_eq, tl_join] at hc
  rcases mem_joinL hc with z | ⟨p, hp, z⟩
  · exact ha c z
  · obtain ⟨w, hw, rfl⟩ := List.mem_map.mp hp
    exact h w hw c z
theorem fine_sp : Fine (" " : Str) := fine_lit _ (by decide +kernel)
theorem join15 {ws : List Str} {n : Nat} (h : ∀ w ∈ ws, Cl w) (ht : tot ws ≤ n) (hn : n ≤ 1000000) : joinF " " (sD ws) = some (.str (lineS ws)) ∧ LB n (lineS ws) := by
  have h2 := join_len " " ws
  rw [len_sp] at h2
  unfold tot at ht
  exact ⟨join_ok (by rw [len_sp]; omega), ⟨fine_join fine_sp fun w hw => (h w hw).1, line_no fun w hw => (h w hw).2⟩, by unfold lineS; omega⟩
theorem cut_to15 (ws : List Str) (k : Nat) (h : k ≤ ws.length) : cutF (sD ws) none (some (k : Int)) = some (sD (ws.take k)) := by
  show some (D.lst (cutD _ _ _)) = _
  refine congrArg some (congrArg D.lst ?_)
  unfold cutD
  rw [HT.sIx_nat, List.length_map, Nat.min_eq_left h]
  have h0 : HT.sIx ws.length 0 none = 0 := rfl
  rw [h0, List.drop_zero, Nat.sub_zero, List.map_take]
theorem cut_from15 (ws : List Str) (k : Nat) : cutF (sD ws) (some (k : Int)) none = some (sD (ws.drop k)) := by
  have := cutF_from (ws.map D.str) k
  rw [← List.map_drop] at this
  exact this
theorem add_sD {a b : List Str} (h : a.length + b.length ≤ 1000000) : addF (sD a) (sD b) = some (sD (a ++ b)) := by
  unfold addF sD
  simp only
  rw [if_pos (by rw [List.length_map, List.length_map]; exact h), List.map_append]
theorem tot_len (ws : List Str) : ws.length ≤ tot ws := by unfold tot; omega
def lit16 : List Str := ["", "0", "1", "2", "3", "4", "6", "8", "9", "-1", "01", "rule", "word", "none", "x", "10"]
theorem lit_cl (s : String) (h : (decide (10 ∉ s.toList.map Char.toNat) && decide ((s.toList.map Char.toNat).length ≤ 4) && (s.toList.all fun c => decide (c.toNat < 128))) = true) : Cl (Str.ofString s) ∧ (Str.ofString s).length ≤ 4 := by
  simp only [Bool.and_eq_true, decide_eq_true_eq] at h
  obtain ⟨⟨h1, h2⟩, h3⟩ := h
  rw [len_tl]
  unfold Cl
  rw [TL.tl_ofString]
  exact ⟨⟨fine_lit s h3, h1⟩, h2⟩
theorem lit16_ok : ∀ x ∈ lit16, Cl x ∧ x.length ≤ 4 := by
  intro x hx
  unfold lit16 at hx
  simp only [List.mem_cons, List.mem_nil_iff, or_false] at hx
  rcases hx with rfl | rfl | rfl | rfl | rfl | rfl | rfl | rfl | rfl | rfl | rfl | rfl | rfl | rfl | rfl | rfl <;> exact lit_cl _ (by decide +kernel)
abbrev P15 (L : D) (s2 s3 s4 s5 : Mi.Slot) (row : RowS) : Mi.Env := ⟨[.val .row, .val L, s2, s3, s4, s5], row⟩
theorem fn_ret2 {k : Nat} {m : M Fl} {ds : List D} {row row' : RowS} {d : D} {e : Mi.Env} (h : m ⟨ds.map Mi.Slot.val ++ List.replicate k .no, row⟩ = .ok (.rt d) e) (hr : e.row = row') : fnM k m ds row = .ret d row' := by
  rw [fnM_app, h, ← hr]
  rfl
theorem e_spoilt {row : RowS} (h : RowIn row) {L : Str} {B : Nat} (hL : LB B L) (hB : B ≤ 1000) : ∃ (L' : Str) (row' : RowS), F__law_spoilt [.row, .str L] row = .ret (.str L') row' ∧ LB (2 * B + 7) L' ∧ RowIn row' := by
  have hsp := split_ok (a := L) (b := " ") (by decide) (by have := hL.2; omega)
  have ht := split_tot L
  have hcl := split_cl hL.1
  have hLl := hL.2
  generalize hws : Txt.split L " " = ws at *
  have hne : 0 < ws.length := by
    cases ws with
    | nil => simp [tot] at ht
    | cons x l => simp
  have htl := tot_len ws
  obtain ⟨p, row1, e1, p0, p1, h1⟩ := e_pick h (m := (ws.length : Int)) (by omega) (by omega)
  obtain ⟨t, row2, e2, t0, t1, h2⟩ := e_pick h1 (m := 6) (by decide) (by decide)
  obtain ⟨k, rfl⟩ : ∃ k : Nat, p = (k : Int) := ⟨p.toNat, by omega⟩
  have hk : k < ws.length := by omega
  have hlen := len_sD ws
  have hod : OD.d (.lst (ws.map D.str)) = sD ws := rfl
  have q1 : SPq1 (P15 (.str L) .no .no .no .no row) = .ok .nx (P15 (.str L) (.val (sD ws)) .no .no .no row) := by
    generalize sD ws = wd at *
    generalize OD.lst (ws.map D.str) = od at *
    simp [SPq1, hsp, hod]
  have q2 : SPq2 (P15 (.str L) (.val (sD ws)) .no .no .no row) = .ok .nx (P15 (.str L) (.val (sD ws)) .no (.val (.int k)) (.val (.int t)) row2) := by
    generalize (ws.length : Int) = nn at *
    generalize sD ws = wd at *
    simp [SPq2, hlen, e1, e2]
  have q3 : SPq3 (P15 (.str L) (.val (sD ws)) .no (.val (.int k)) (.val (.int t)) row2) = .ok .nx (P15 (.str L) (.val (sD ws)) (.val (sD lit16)) (.val (.int k)) (.val (.int t)) row2) := by
    have hod2 : OD.d (.lst [.str "", .str "0", .str "1", .str "2", .str "3", .str "4", .str "6", .str "8", .str "9", .str "-1", .str "01", .str "rule", .str "word", .str "none", .str "x", .str "10"]) = sD lit16 := rfl
    generalize sD lit16 = ld at *
    generalize sD ws = wd at *
    simp [SPq3, hod2]
  have fin : ∀ {L' : Str} {row' : RowS} {e : Mi.Env}, seqM SPq4 (seqM SPq5 (seqM SPq6 SPq7)) (P15 (.str L) (.val (sD ws)) (.val (sD lit16)) (.val (.int k)) (.val (.int t)) row2) = .ok (.rt (.str L')) e → e.row = row' → F__law_spoilt [.row, .str L] row = .ret (.str L') row' := fun {L' row' e} h hr => by
    have hh : m__law_spoilt (P15 (.str L) .no .no .no .no row) = .ok (.rt (.str L')) e := by
      rw [SPq_eq, seq_ok q1, seq_ok q2, seq_ok q3]
      exact h
    exact fn_ret2 (ds := [.row, .str L]) hh hr
  have c1 := cut_to15 ws k (by omega)
  have c2 := cut_from15 ws (k + 1)
  have c3 := cut_from15 ws k
  have hk1 : ((k + 1 : Nat) : Int) = (k : Int) + 1 := by omega
  rw [hk1] at c2
  have hadd1 : addF (.int (k : Int)) (.int 1) = some (.int ((k : Int) + 1)) := rfl
  have hadd0 : addF (.int (k : Int)) (.int 0) = some (.int (k : Int)) := by
    show some (D.int ((k : Int) + 0)) = _
    rw [Int.add_zero]
  have tt := tot_take ws k
  have tt1 := tot_take ws (k + 1)
  have l1 : (ws.take k).length ≤ ws.length := by rw [List.length_take]; omega
  have l2 : (ws.drop k).length ≤ ws.length := by rw [List.length_drop]; omega
  have l3 : (ws.drop (k + 1)).length ≤ ws.length := by rw [List.length_drop]; omega
  have m1 : ∀ w ∈ ws.take k, Cl w := fun w hw => hcl w (List.mem_of_mem_take hw)
  have m2 : ∀ w ∈ ws.drop k, Cl w := fun w hw => hcl w (List.mem_of_mem_drop hw)
  have m3 : ∀ w ∈ ws.drop (k + 1), Cl w := fun w hw => hcl w (List.mem_of_mem_drop hw)
  have mapp : ∀ {a b : List Str}, (∀ w ∈ a, Cl w) → (∀ w ∈ b, Cl w) → ∀ w ∈ a ++ b, Cl w := fun ha hb w hw => by
    rcases List.mem_append.mp hw with z | z
    · exact ha w z
    · exact hb w z
  -- another word put in
  have put : ∀ (d : Nat) (j : Int), j = (d : Int) → toIntF (.bl (decide (t < 5))) = some (.int j) → d ≤ 1 → t ≠ 0 → t ≠ 1 → t ≠ 2 → ∃ (L' : Str) (row' : RowS), F__law_spoilt [.row, .str L] row = .ret (.str L') row' ∧ LB (2 * B + 7) L' ∧ RowIn row' := fun d j hj hti hd n0 n1 n2 => by
    obtain ⟨x, row3, e3, x0, x1, h3⟩ := e_pick h2 (m := 16) (by decide) (by decide)
    obtain ⟨y, hy⟩ : ∃ y, lit16[x.toNat]? = some y := ⟨lit16[x.toNat]'(by show x.toNat < 16; omega), List.getElem?_eq_getElem _⟩
    obtain ⟨cy, ly⟩ := lit16_ok y (List.mem_of_getElem? hy)
    have hix := ix_sD hy
    rw [show ((x.toNat : Nat) : Int) = x by omega] at hix
    have c4 := cut_from15 ws (k + d)
    have t4 := tot_take ws (k + d)
    have hkd : ((k + d : Nat) : Int) = (k : Int) + j := by omega
    rw [hkd] at c4
    have hadd : addF (.int (k : Int)) (.int j) = some (.int ((k : Int) + j)) := rfl
    have a1 := add_sD (a := ws.take k) (b := [y]) (by rw [List.length_singleton]; omega)
    have a1 : addF (sD (ws.take k)) (.lst [.str y]) = some (sD (ws.take k ++ [y])) := a1
    have l4 : (ws.drop (k + d)).length ≤ ws.length := by rw [List.length_drop]; omega
    have a2 := add_sD (a := ws.take k ++ [y]) (b := ws.drop (k + d)) (by rw [List.length_append, List.length_singleton]; omega)
    obtain ⟨hj, hb⟩ := join15 (ws := ws.take k ++ [y] ++ ws.drop (k + d)) (n := 2 * B + 7) (mapp (mapp m1 fun w hw => by rw [List.mem_singleton.mp hw]; exact cy) fun w hw => hcl w (List.mem_of_mem_drop hw)) (by rw [tot_app, tot_app, tot_one]; omega) (by omega)
    refine ⟨_, row3, fin (e := P15 (.str L) (.val (sD ws)) (.val (sD lit16)) (.val (.int k)) (.val (.int t)) row3) ?_ rfl, hb, h3⟩
    have z0 : eqF (.int t) (.int 0) = some (.bl false) := by simp [n0]
    have z1 : eqF (.int t) (.int 1) = some (.bl false) := by simp [n1]
    have z2 : eqF (.int t) (.int 2) = some (.bl false) := by simp [n2]
    have hlt : ordF .lt (.int t) (.int 5) = some (.bl (decide (t < 5))) := by simp
    have hod3 : ∀ X : List D, OD.d (.lst X) = .lst X := fun _ => rfl
    generalize decide (t < 5) = tb at *
    generalize lineS (ws.take k ++ [y] ++ ws.drop (k + d)) = Lr at *
    generalize sD (ws.take k ++ [y] ++ ws.drop (k + d)) = s1 at *
    generalize sD (ws.take k ++ [y]) = s2 at *
    generalize sD (ws.take k) = s3 at *
    generalize sD (ws.drop (k + d)) = s4 at *
    generalize sD lit16 = ld at *
    generalize sD ws = wd at *
    generalize (k : Int) + j = kj at *
    simp [SPq4, SPq5, SPq6, SPq7, z0, z1, z2, c1, hix, e3, a1, a2, hlt, hti, hadd, c4, hj, hod3]
  rcases (show t = 0 ∨ t = 1 ∨ t = 2 ∨ t = 3 ∨ t = 4 ∨ t = 5 by omega) with rfl | rfl | rfl | rfl | rfl | rfl
  · have a1 := add_sD (a := ws.take k) (b := ws.drop (k + 1)) (by omega)
    obtain ⟨hj, hb⟩ := join15 (ws := ws.take k ++ ws.drop (k + 1)) (n := 2 * B + 7) (mapp m1 m3) (by rw [tot_app]; omega) (by omega)
    refine ⟨_, row2, fin (e := P15 (.str L) (.val (sD ws)) (.val (sD lit16)) (.val (.int k)) (.val (.int 0)) row2) ?_ rfl, hb, h2⟩
    generalize lineS (ws.take k ++ ws.drop (k + 1)) = Lr at *
    generalize sD (ws.take k ++ ws.drop (k + 1)) = s1 at *
    generalize sD (ws.take k) = s3 at *
    generalize sD (ws.drop (k + 1)) = s4 at *
    generalize sD lit16 = ld at *
    generalize sD ws = wd at *
    generalize (k : Int) + 1 = kj at *
    simp [SPq4, c1, c2, a1, hadd1, hj]
  · obtain ⟨y, hy⟩ : ∃ y, ws[k]? = some y := ⟨ws[k]'hk, List.getElem?_eq_getElem _⟩
    have hmy := List.mem_of_getElem? hy
    have tm := tot_mem hmy
    have hix := ix_sD hy
    have a1 := add_sD (a := ws.take k) (b := [y]) (by rw [List.length_singleton]; omega)
    have a1 : addF (sD (ws.take k)) (.lst [.str y]) = some (sD (ws.take k ++ [y])) := a1
    have a2 := add_sD (a := ws.take k ++ [y]) (b := ws.drop k) (by rw [List.length_append, List.length_singleton]; omega)
    obtain ⟨hj, hb⟩ := join15 (ws := ws.take k ++ [y] ++ ws.drop k) (n := 2 * B + 7) (mapp (mapp m1 fun w hw => by rw [List.mem_singleton.mp hw]; exact hcl y hmy) m2) (by rw [tot_app, tot_app, tot_one]; omega) (by omega)
    refine ⟨_, row2, fin (e := P15 (.str L) (.val (sD ws)) (.val (sD lit16)) (.val (.int k)) (.val (.int 1)) row2) ?_ rfl, hb, h2⟩
    have hod3 : ∀ X : List D, OD.d (.lst X) = .lst X := fun _ => rfl
    generalize lineS (ws.take k ++ [y] ++ ws.drop k) = Lr at *
    generalize sD (ws.take k ++ [y] ++ ws.drop k) = s1 at *
    generalize sD (ws.take k ++ [y]) = s2 at *
    generalize sD (ws.take k) = s3 at *
    generalize sD (ws.drop k) = s4 at *
    generalize sD lit16 = ld at *
    generalize sD ws = wd at *
    simp [SPq4, SPq5, c1, c3, hix, a1, a2, hj, hod3]
  · obtain ⟨hj, hb⟩ := join15 (ws := ws.take k) (n := 2 * B + 7) m1 (by omega) (by omega)
    refine ⟨_, row2, fin (e := P15 (.str L) (.val (sD ws)) (.val (sD lit16)) (.val (.int k)) (.val (.int 2)) row2) ?_ rfl, hb, h2⟩
    generalize lineS (ws.take k) = Lr at *
    generalize sD (ws.take k) = s3 at *
    generalize sD lit16 = ld at *
    generalize sD ws = wd at *
    simp [SPq4, SPq5, SPq6, c1, hj]
  · exact put 1 1 rfl rfl (by decide) (by decide) (by decide) (by decide)
  · exact put 1 1 rfl rfl (by decide) (by decide) (by decide) (by decide)
  · exact put 0 0 rfl rfl (by decide) (by decide) (by decide) (by decide)
end
end Cut


set_option Elab.async false
set_option linter.all false
set_option maxRecDepth 100000
set_option maxHeartbeats 1000000
/-! P15: texts refused. -/
namespace Cut
open PySem Mi
open TL (tl tl_append len_tl ext_tl joinL tl_join join_eq spl pre)
open L2 (atI ixN atI_nat)
@[simp ↓] theorem setIxM_app (i : Nat) (mk mv : M D) (e : Mi.Env) : setIxM i mk mv e = (mv e).bind fun dv => bindM (ownL i) fun _ => bindM mk fun dk => match dk with
  | .int k => bindM (ownL i) fun l => (match ixN l.length k with
    | some j => bindM (setM i (.own (.lst (l.set j dv)))) fun _ => pureM .nx
    | none => errM)
  | _ => errM := rfl
@[simp ↓] theorem op2O_app (ma mb : M Ref) (f : D → D → Option OD) (e : Mi.Env) : op2O ma mb f e = (ma e).bind fun x => bindM mb fun y => bindM (derefM x) fun d => bindM (derefM y) fun d' => liftO (f d d') := rfl
theorem e_law_rule15 {row : RowS} (h : RowIn row) {signs window most : Int} (s1 : 2 ≤ signs) (s2 : signs ≤ 3) (w1 : 1 ≤ window) (w2 : window ≤ 3) (m1 : 3 ≤ most) (m2 : most ≤ 8) :
    ∃ (r : PR) (row' : RowS), F__law_rule [.row, .int signs, .int window, .int most] row = .ret r.t row' ∧ RowIn row' ∧ r.Ok ∧ r.rows.length ≤ 998 ∧ r.many ≤ signs ∧ (r.wide : Int) ≤ window ∧ r.low ≤ 3 ∧ (∀ x, r.high = some x → x ≤ r.low + (most - 3)) := by
  obtain ⟨p1, row1, e1, a1, b1, h1⟩ := e_pick h (m := 3) (by decide) (by decide)
  obtain ⟨p2, row2, e2, a2, b2, h2⟩ := e_pick h1 (m := window) (by omega) (by omega)
  obtain ⟨p3, row3, e3, a3, b3, h3⟩ := e_pick h2 (m := 3) (by decide) (by decide)
  obtain ⟨many, hmany, hm2, hm3, hms⟩ : ∃ many : Int, 2 + (if p1 = 0 then 1 else 0) * (signs - 2) = many ∧ 2 ≤ many ∧ many ≤ 3 ∧ many ≤ signs := by
    by_cases c : p1 = 0
    · exact ⟨signs, by simp [c]; omega, s1, s2, Int.le_refl _⟩
    · exact ⟨2, by simp [c], by decide, by decide, s1⟩
  obtain ⟨wide, hwide⟩ : ∃ n : Nat, 1 + p2 = (n : Int) := ⟨(1 + p2).toNat, by omega⟩
  have hw1 : 1 ≤ wide := by omega
  have hw2 : wide ≤ 3 := by omega
  have hwords := fun row => e_words (signs := many) (by omega) hm3 hw2 row
  have hcnt : (wD (wordsP many wide)).length ≤ 998 := by
    unfold wD
    rw [List.length_map, words_count]
    exact Nat.le_trans (Nat.pow_le_pow_left (show many.toNat ≤ 3 by omega) wide) (Nat.le_trans (Nat.pow_le_pow_right (by decide) hw2) (by decide))
  have hmul : mulF (.int (if p1 = 0 then 1 else 0)) (.int (signs - 2)) = some (.int ((if p1 = 0 then 1 else 0) * (signs - 2))) := mul_i _ _ (by omega) (by omega)
  obtain ⟨ys, zs, row4, e4, hs, hall, h4⟩ := lc_ex (i := 10) (t := u__law_rule_1) (el := c__law_rule_1) (sl := [.val .row, .val (.int signs), .val (.int window), .val (.int most), .val (.int many), .val (.int wide), .val (.int (2 + p3)), .no, .no, .no, .no]) RowIn (fun a b => b = a) (by simp) rfl (wD (wordsP many wide)) row3 h3 (Nat.le_trans hcnt (by decide)) (fun d _ r hr => by
    obtain ⟨p, r', ep, _, _, hr'⟩ := e_pick hr (m := 2 + p3) (by omega) (by omega)
    by_cases c : p = 0
    · exact .inr ⟨r', r', d, by simp [u__law_rule_1, ep, c], by simp [c__law_rule_1], rfl, hr'⟩
    · exact .inl ⟨r', by simp [u__law_rule_1, ep, c], hr'⟩)
  have hyz := hall.id_eq
  subst hyz
  obtain ⟨rows, rfl, hsub⟩ := sub_wD hs
  obtain ⟨p4, row5, e5, a4, b4, h5⟩ := e_pick h4 (m := 3) (by decide) (by decide)
  obtain ⟨p5, row6, e6, a5, b5, h6⟩ := e_pick h5 (m := most - 2) (by omega) (by omega)
  obtain ⟨p6, row7, e7, a6, b6, h7⟩ := e_pick h6 (m := 2) (by decide) (by decide)
  have hasc : (wordsP many wide).Pairwise Before := by
    have hm : many = 2 ∨ many = 3 := by omega
    have hw : wide = 1 ∨ wide = 2 ∨ wide = 3 := by omega
    rcases hm with rfl | rfl <;> rcases hw with rfl | rfl | rfl <;> exact words_asc _ (by simp) _ (by simp)
  obtain ⟨high, hhigh, hh⟩ : ∃ high : Option Int, atI [D.non, .int (1 + p4 + p5)] p6 = some (hD high) ∧ (high = none ∨ high = some (1 + p4 + p5)) := by
    have hp : p6 = 0 ∨ p6 = 1 := by omega
    rcases hp with rfl | rfl
    · exact ⟨none, by simp [hD], .inl rfl⟩
    · exact ⟨some (1 + p4 + p5), by simp [hD], .inr rfl⟩
  refine ⟨⟨many, wide, rows, 1 + p4, high⟩, row7, ?_, h7, ⟨hm2, hm3, hw1, hw2, fun w hw => ?_, asc_of (hasc.sublist hsub), by show 1 ≤ 1 + p4; omega, by show 1 + p4 ≤ 6; omega, fun x hx => ?_, ?_⟩, ?_, hms, by show (wide : Int) ≤ window; omega, by show 1 + p4 ≤ 3; omega, fun x hx => ?_⟩
  · simp [F__law_rule, fnM_app, m__law_rule, e1, hmul, hmany, e2, hwide, e3, hwords, e4, e5, e6, e7, hhigh, PR.t, PR.ds]
  · obtain ⟨l1, l2⟩ := words_len many wide w (hsub.subset hw)
    exact ⟨l1, fun x hx => ⟨(l2 x hx).1, by have := (l2 x hx).2; show x ≤ many - 1; omega⟩⟩
  · show 1 + p4 ≤ x ∧ x ≤ 8
    rcases hh with rfl | rfl
    · cases hx
    · cases hx
      omega
  · show rows.length ≤ 1000
    have h9 := hsub.length_le
    have : (wD (wordsP many wide)).length = (wordsP many wide).length := by simp [wD]
    omega
  · show rows.length ≤ 998
    have h9 := hsub.length_le
    have : (wD (wordsP many wide)).length = (wordsP many wide).length := by simp [wD]
    omega
  · show x ≤ 1 + p4 + (most - 3)
    rcases hh with rfl | rfl
    · cases hx
    · cases hx
      omega

section
noncomputable section
def LWq1 : M Fl := (asgO 3 (callO F__law_lines (consM (callM F__law_rule (consM (readM 1) (consM (pureM (.int 3)) (consM (pureM (.int 3)) (consM (pureM (.int 6)) (pureM [])))))) (pureM []))))
def LWq2 : M Fl := (forL (listM (consM (callM F__law_pick (consM (readM 1) (consM (pureM (.int 3)) (pureM [])))) (pureM [])) range1D) (gN 4)
      (b_law_1))
def LWq3 : M Fl := (iteM (testM (eqOM (mapM' (callM F__law_told_there (consM (joinM (pureM (.str "\n")) (refM 3)) (pureM []))) Ref.val) (mapM' (callM F__law_due (consM (joinM (pureM (.str "\n")) (refM 3)) (pureM []))) Ref.val) F_eq true))
      (retM (pureM (.bl false)))
      (nxM))
theorem LWq_eq : b_law_2 = seqM LWq1 (seqM LWq2 LWq3) := rfl
end
theorem keys_of : ∀ {ds : List D}, (∀ d ∈ ds, (D.key d).isSome = true) → (D.keys ds).isSome = true
  | [], _ => rfl
  | d :: ds, h => by
    have h1 := h d List.mem_cons_self
    have h2 := keys_of fun x hx => h x (List.mem_cons_of_mem _ hx)
    unfold D.keys
    cases e1 : D.key d with
    | none => rw [e1] at h1; cases h1
    | some k =>
      cases e2 : D.keys ds with
      | none => rw [e2] at h2; cases h2
      | some ks => rfl
theorem key_tup {l : List D} (h : (D.keys l).isSome = true) : (D.key (.tup l)).isSome = true := by
  unfold D.key
  rw [Option.isSome_map]
  exact h
theorem keys_t (r : PR) : (D.keys [r.t]).isSome = true := by
  refine keys_of fun d hd => ?_
  rw [List.mem_singleton.mp hd]
  refine key_tup (keys_of fun d hd => ?_)
  unfold PR.ds at hd
  simp only [List.mem_cons, List.mem_nil_iff, or_false] at hd
  rcases hd with rfl | rfl | rfl | rfl | rfl
  · rfl
  · rfl
  · refine key_tup (keys_of fun d hd => ?_)
    obtain ⟨w, _, rfl⟩ := List.mem_map.mp hd
    refine key_tup (keys_of fun d hd => ?_)
    obtain ⟨x, _, rfl⟩ := List.mem_map.mp hd
    rfl
  · rfl
  · cases r.high <;> rfl
/-- lines in hand -/
structure Ln (N B : Nat) (Ls : List Str) : Prop where
  ne : Ls ≠ []
  len : Ls.length ≤ N
  all : ∀ L ∈ Ls, LB B L
theorem lines_ln {r : PR} (ok : r.Ok) (h : r.rows.length ≤ 998) : Ln 999 126 (linesOf r) where
  ne := by simp [linesOf, wssOf]
  len := by
    unfold linesOf wssOf
    simp
    exact h
  all := fun L hL => by
    obtain ⟨ws, hw, rfl⟩ := List.mem_map.mp hL
    have w := wss_ok ok ws hw
    exact ⟨⟨fine_join fine_sp fun x hx => (w.ok x hx).2.2.2.2, line_no fun x hx => (w.ok x hx).2.2.1⟩, w.small⟩
theorem Ln.text {N B : Nat} {Ls : List Str} (h : Ln N B Ls) (hN : N ≤ 1001) (hB : B ≤ 900) : joinF "\n" (sD Ls) = some (.str (Txt.join "\n" Ls)) ∧ TextOk (Txt.join "\n" Ls) Ls := by
  have h1 := sum_le (l := Ls) (B := B) fun L hL => (h.all L hL).2
  have h2 := join_len "\n" Ls
  rw [len_nl] at h2
  have hl := h.len
  have h3 : Ls.length * B ≤ 1001 * 900 := Nat.mul_le_mul (by omega) hB
  refine ⟨join_ok (by rw [len_nl]; omega), lines_back h.ne fun L hL => (h.all L hL).1.2, by omega, h.ne, by omega, fun L hL => ⟨(h.all L hL).1.1, by have := (h.all L hL).2; omega⟩⟩
abbrev G15 (Ls : List Str) (s2 s4 s5 s6 : Mi.Slot) (row : RowS) : Mi.Env := ⟨[.no, .val .row, s2, .own (.lst (Ls.map D.str)), s4, s5, s6], row⟩
theorem cat_sD {a b : List Str} (h : a.length + b.length ≤ 1000000) : catO (sD a) (sD b) = some (.lst ((a ++ b).map D.str)) := by
  unfold catO sD
  simp only
  rw [if_pos (by rw [List.length_map, List.length_map]; exact h), List.map_append]
theorem rev_sD (a : List Str) : revLF (sD a) = some (sD a.reverse) := by
  unfold revLF sD
  simp only
  rw [List.map_reverse]
theorem inner15 {N B : Nat} {Ls : List Str} (hl : Ln N B Ls) (hN : N ≤ 1100) (hB : B ≤ 1000) {row : RowS} (h : RowIn row) (d : D) (s2 s4 s5 s6 : Mi.Slot) : ∃ (Ls' : List Str) (row' : RowS) (s5' s6' : Mi.Slot), bindM (gN 4 d) (fun _ => b_law_1) (G15 Ls s2 s4 s5 s6 row) = .ok .nx (G15 Ls' s2 (.val d) s5' s6' row') ∧ Ln (N + 1) (2 * B + 7) Ls' ∧ RowIn row' := by
  have hlen : lenF (sD Ls) = some (.int (Ls.length : Int)) := len_sD Ls
  have hlen : lenF (.lst (Ls.map D.str)) = some (.int (Ls.length : Int)) := hlen
  have hNl := hl.len
  have hne : 0 < Ls.length := by
    have := hl.ne
    cases Ls with
    | nil => exact absurd rfl this
    | cons x l => simp
  have hall := hl.all
  obtain ⟨p, row1, e1, p0, p1, h1⟩ := e_pick h (m := (Ls.length : Int)) (by omega) (by omega)
  obtain ⟨t, row2, e2, t0, t1, h2⟩ := e_pick h1 (m := 8) (by decide) (by decide)
  obtain ⟨k, rfl⟩ : ∃ k : Nat, p = (k : Int) := ⟨p.toNat, by omega⟩
  have hk : k < Ls.length := by omega
  have c1 : cutF (.lst (Ls.map D.str)) none (some (k : Int)) = some (sD (Ls.take k)) := cut_to15 Ls k (by omega)
  have c2 : cutF (.lst (Ls.map D.str)) (some ((k : Int) + 1)) none = some (sD (Ls.drop (k + 1))) := cut_from15 Ls (k + 1)
  have c3 : cutF (.lst (Ls.map D.str)) (some (k : Int)) none = some (sD (Ls.drop k)) := cut_from15 Ls k
  have c5 : cutF (.lst (Ls.map D.str)) none (some 1) = some (sD (Ls.take 1)) := cut_to15 Ls 1 (by omega)
  have c6 : cutF (.lst (Ls.map D.str)) (some 1) none = some (sD (Ls.drop 1)) := cut_from15 Ls 1
  have hadd1 : addF (.int (k : Int)) (.int 1) = some (.int ((k : Int) + 1)) := rfl
  have l1 : (Ls.take k).length = k := by rw [List.length_take]; omega
  have l2 : (Ls.drop k).length = Ls.length - k := List.length_drop
  have l3 : (Ls.drop (k + 1)).length = Ls.length - (k + 1) := List.length_drop
  have up : ∀ {L : Str}, LB B L → LB (2 * B + 7) L := fun h => h.mono (by omega)
  have m1 : ∀ w ∈ Ls.take k, LB (2 * B + 7) w := fun w hw => up (hall w (List.mem_of_mem_take hw))
  have m2 : ∀ w ∈ Ls.drop k, LB (2 * B + 7) w := fun w hw => up (hall w (List.mem_of_mem_drop hw))
  have m3 : ∀ w ∈ Ls.drop (k + 1), LB (2 * B + 7) w := fun w hw => up (hall w (List.mem_of_mem_drop hw))
  have mapp : ∀ {a b : List Str}, (∀ w ∈ a, LB (2 * B + 7) w) → (∀ w ∈ b, LB (2 * B + 7) w) → ∀ w ∈ a ++ b, LB (2 * B + 7) w := fun ha hb w hw => by
    rcases List.mem_append.mp hw with z | z
    · exact ha w z
    · exact hb w z
  have glen : ordF .gt (.int (Ls.length : Int)) (.int 1) = some (.bl (decide (1 < (Ls.length : Int)))) := gt_len _ _
  have hgN : gN 4 d (G15 Ls s2 s4 s5 s6 row) = .ok () (G15 Ls s2 (.val d) s5 s6 row) := rfl
  have hod3 : ∀ X : List D, OD.d (.lst X) = .lst X := fun _ => rfl
  -- a line is spoilt
  have spo : ∀ {c : Bool}, (c = true → t = 0 ∧ 1 < (Ls.length : Int)) → (eqF (.int t) (.int 1) = some (.bl false)) → (eqF (.int t) (.int 2) = some (.bl false)) → (t = 0 → ¬ 1 < (Ls.length : Int)) → ∃ (Ls' : List Str) (row' : RowS) (s5' s6' : Mi.Slot), bindM (gN 4 d) (fun _ => b_law_1) (G15 Ls s2 s4 s5 s6 row) = .ok .nx (G15 Ls' s2 (.val d) s5' s6' row') ∧ Ln (N + 1) (2 * B + 7) Ls' ∧ RowIn row' := fun _ z1 z2 z0 => by
    obtain ⟨L, hL⟩ : ∃ L, Ls[k]? = some L := ⟨Ls[k]'hk, List.getElem?_eq_getElem _⟩
    have hm := List.mem_of_getElem? hL
    have hix : ixF (.lst (Ls.map D.str)) (.int (k : Int)) = some (.str L) := ix_sD hL
    obtain ⟨L', row3, e3, hb, h3⟩ := e_spoilt h2 (hall L hm) hB
    have hixn : ixN (Ls.map D.str).length (k : Int) = some k := by
      unfold ixN
      rw [List.length_map, if_pos (by omega), if_pos (by omega)]
      simp
    have hset : (Ls.map D.str).set k (.str L') = (Ls.set k L').map D.str := by rw [List.map_set]
    refine ⟨Ls.set k L', row3, .val (.int k), .val (.int t), ?_, ⟨fun z => by
      have := congrArg List.length z
      rw [List.length_set, List.length_nil] at this
      omega, by rw [List.length_set]; omega, fun w hw => ?_⟩, h3⟩
    · have zt : eqF (.int t) (.int 0) = some (.bl (decide (t = 0))) := by simp
      unfold G15
      rw [← hset]
      unfold bindM
      rw [show gN 4 d ⟨[.no, .val .row, s2, .own (.lst (Ls.map D.str)), s4, s5, s6], row⟩ = .ok () ⟨[.no, .val .row, s2, .own (.lst (Ls.map D.str)), .val d, s5, s6], row⟩ from rfl]
      by_cases ht : t = 0
      · rw [decide_eq_true ht] at zt
        rw [decide_eq_false (z0 ht)] at glen
        generalize (Ls.length : Int) = nn at *
        generalize Ls.map D.str = lm at *
        simp [b_law_1, hlen, e1, e2, zt, z1, z2, glen, hix, e3, hixn]
      · rw [decide_eq_false ht] at zt
        generalize (Ls.length : Int) = nn at *
        generalize Ls.map D.str = lm at *
        simp [b_law_1, hlen, e1, e2, zt, z1, z2, hix, e3, hixn]
    · rcases List.mem_or_eq_of_mem_set hw with z | rfl
      · exact up (hall w z)
      · exact hb
  by_cases ht0 : t = 0 ∧ 1 < (Ls.length : Int)
  · obtain ⟨rfl, hl1⟩ := ht0
    rw [decide_eq_true hl1] at glen
    have a1 := cat_sD (a := Ls.take k) (b := Ls.drop (k + 1)) (by omega)
    refine ⟨Ls.take k ++ Ls.drop (k + 1), row2, .val (.int k), .val (.int 0), ?_, ⟨fun z => by
      have := congrArg List.length z
      rw [List.length_append, List.length_nil] at this
      omega, by rw [List.length_append]; omega, mapp m1 m3⟩, h2⟩
    have zt : eqF (.int 0) (.int 0) = some (.bl true) := by simp
    unfold bindM
    rw [hgN]
    unfold G15
    generalize (Ls.take k ++ Ls.drop (k + 1)).map D.str = r1 at *
    generalize sD (Ls.take k) = r2 at *
    generalize sD (Ls.drop (k + 1)) = r3 at *
    generalize (Ls.length : Int) = nn at *
    generalize Ls.map D.str = lm at *
    generalize (k : Int) + 1 = k1 at *
    simp [b_law_1, hlen, e1, e2, zt, glen, c1, c2, hadd1, a1]
  · by_cases ht1 : t = 1
    · subst ht1
      obtain ⟨L, hL⟩ : ∃ L, Ls[k]? = some L := ⟨Ls[k]'hk, List.getElem?_eq_getElem _⟩
      have hm := List.mem_of_getElem? hL
      have hix : ixF (.lst (Ls.map D.str)) (.int (k : Int)) = some (.str L) := ix_sD hL
      have a1 : addF (sD (Ls.take k)) (.lst [.str L]) = some (sD (Ls.take k ++ [L])) := add_sD (a := Ls.take k) (b := [L]) (by rw [List.length_singleton]; omega)
      have a2 := cat_sD (a := Ls.take k ++ [L]) (b := Ls.drop k) (by rw [List.length_append, List.length_singleton]; omega)
      refine ⟨Ls.take k ++ [L] ++ Ls.drop k, row2, .val (.int k), .val (.int 1), ?_, ⟨fun z => by
        have := congrArg List.length z
        rw [List.length_append, List.length_append, List.length_singleton, List.length_nil] at this
        omega, by rw [List.length_append, List.length_append, List.length_singleton]; omega, mapp (mapp m1 fun w hw => by rw [List.mem_singleton.mp hw]; exact up (hall L hm)) m2⟩, h2⟩
      have zt : eqF (.int 1) (.int 0) = some (.bl false) := by simp
      have zt1 : eqF (.int 1) (.int 1) = some (.bl true) := by simp
      unfold bindM
      rw [hgN]
      unfold G15
      generalize (Ls.take k ++ [L] ++ Ls.drop k).map D.str = r1 at *
      generalize sD (Ls.take k ++ [L]) = r4 at *
      generalize sD (Ls.take k) = r2 at *
      generalize sD (Ls.drop k) = r3 at *
      generalize (Ls.length : Int) = nn at *
      generalize Ls.map D.str = lm at *
      simp [b_law_1, hlen, e1, e2, zt, zt1, c1, c3, hix, a1, a2, hod3]
    · by_cases ht2 : t = 2
      · subst ht2
        have hr := rev_sD (Ls.drop 1)
        have ld : (Ls.drop 1).length = Ls.length - 1 := List.length_drop
        have lt : (Ls.take 1).length = 1 := by rw [List.length_take]; omega
        have a2 := cat_sD (a := Ls.take 1) (b := (Ls.drop 1).reverse) (by rw [List.length_reverse]; omega)
        refine ⟨Ls.take 1 ++ (Ls.drop 1).reverse, row2, .val (.int k), .val (.int 2), ?_, ⟨fun z => by
          have := congrArg List.length z
          rw [List.length_append, List.length_nil] at this
          omega, by rw [List.length_append, List.length_reverse]; omega, mapp (fun w hw => up (hall w (List.mem_of_mem_take hw))) fun w hw => up (hall w (List.mem_of_mem_drop (List.mem_reverse.mp hw)))⟩, h2⟩
        have zt : eqF (.int 2) (.int 0) = some (.bl false) := by simp
        have zt1 : eqF (.int 2) (.int 1) = some (.bl false) := by simp
        have zt2 : eqF (.int 2) (.int 2) = some (.bl true) := by simp
        unfold bindM
        rw [hgN]
        unfold G15
        generalize (Ls.take 1 ++ (Ls.drop 1).reverse).map D.str = r1 at *
        generalize sD (Ls.drop 1).reverse = r4 at *
        generalize sD (Ls.take 1) = r2 at *
        generalize sD (Ls.drop 1) = r3 at *
        generalize (Ls.length : Int) = nn at *
        generalize Ls.map D.str = lm at *
        simp [b_law_1, hlen, e1, e2, zt, zt1, zt2, c5, c6, hr, a2]
      · exact spo (c := false) (fun z => by cases z) (by simp [ht1]) (by simp [ht2]) fun z hl => ht0 ⟨z, hl⟩
/-! a round -/
def I15 (e : Mi.Env) : Prop := ∃ (s2 s3 s4 s5 s6 : Mi.Slot) (row : RowS), e = ⟨[.no, .val .row, s2, s3, s4, s5, s6], row⟩ ∧ RowIn row
theorem out_plain (nf : Int × Int) : (outD (.inl nf)).plain 60 = true := by
  have h1 : (D.str "line").plain 59 = true := (fine_lit "line" (by decide +kernel)).plain 59
  show ((D.str "line").plain 59 && ((D.int nf.1).plain 59 && ((D.int nf.2).plain 59 && D.plains 59 []))) = true
  rw [h1]
  rfl
theorem turn15 (d : D) {e : Mi.Env} (he : I15 e) : ∃ e', bindM (gN 2 d) (fun _ => b_law_2) e = .ok .nx e' ∧ I15 e' := by
  obtain ⟨s2, s3, s4, s5, s6, row, rfl, h⟩ := he
  obtain ⟨r, row1, e1, h1, ok, hrows, _⟩ := e_law_rule15 h (signs := 3) (window := 3) (most := 6) (by decide) (by decide) (by decide) (by decide) (by decide) (by decide)
  have hlines := e_law_lines ok row1
  have hln := lines_ln ok hrows
  have hkeys := keys_t r
  have hnew : newTexts (sD (linesOf r)) = some (.lst ((linesOf r).map D.str)) := by
    have hne := hln.ne
    unfold newTexts sD
    cases e : linesOf r with
    | nil => exact absurd e hne
    | cons x l =>
      have : ((x :: l).map D.str).all D.isStr = true := by
        rw [List.all_map]
        exact List.all_eq_true.mpr fun _ _ => rfl
      rw [List.map_cons] at this ⊢
      simp only
      rw [if_pos this]
  have q1 : LWq1 ⟨[.no, .val .row, .val d, s3, s4, s5, s6], row⟩ = .ok .nx (G15 (linesOf r) (.val d) s4 s5 s6 row1) := by
    unfold G15
    generalize (linesOf r).map D.str = lm at *
    generalize sD (linesOf r) = ld at *
    generalize r.t = t at *
    have hc : callO F__law_lines (consM (callM F__law_rule (consM (readM 1) (consM (pureM (.int 3)) (consM (pureM (.int 3)) (consM (pureM (.int 6)) (pureM [])))))) (pureM [])) ⟨[.no, .val .row, .val d, s3, s4, s5, s6], row⟩ = .ok (.lst lm) ⟨[.no, .val .row, .val d, s3, s4, s5, s6], row1⟩ := by
      unfold callO
      have ha : consM (callM F__law_rule (consM (readM 1) (consM (pureM (.int 3)) (consM (pureM (.int 3)) (consM (pureM (.int 6)) (pureM [])))))) (pureM []) ⟨[.no, .val .row, .val d, s3, s4, s5, s6], row⟩ = .ok [t] ⟨[.no, .val .row, .val d, s3, s4, s5, s6], row1⟩ := by
        simp [e1]
      unfold bindM
      rw [ha]
      simp only
      rw [if_pos hkeys, hlines]
      simp only
      rw [hnew]
    unfold LWq1 asgO bindM
    rw [hc]
    rfl
  obtain ⟨c, row2, e2, c0, c1, h2⟩ := e_pick h1 (m := 3) (by decide) (by decide)
  have hr : range1D [.int c] = some (rngL 0 c) := range1_ok (okI_small (by omega) (by omega))
  have loop : ∃ e', forM' (gN 4) b_law_1 (rngL 0 c) (G15 (linesOf r) (.val d) s4 s5 s6 row2) = .ok .nx e' ∧ ∃ (Ls : List Str) (s4 s5 s6 : Mi.Slot) (row : RowS), e' = G15 Ls (.val d) s4 s5 s6 row ∧ RowIn row ∧ Ln 1001 525 Ls := by
    rcases (show c = 0 ∨ c = 1 ∨ c = 2 by omega) with rfl | rfl | rfl
    · exact ⟨_, rfl, _, _, _, _, _, rfl, h2, ⟨hln.ne, by have := hln.len; omega, fun L hL => (hln.all L hL).mono (by decide)⟩⟩
    · obtain ⟨L1, r3, a5, a6, k1, g1, h3⟩ := inner15 hln (by decide) (by decide) h2 (.int 0) (.val d) s4 s5 s6
      have hrl : rngL 0 1 = [.int 0] := rfl
      rw [hrl, for_cons k1]
      exact ⟨_, rfl, _, _, _, _, _, rfl, h3, ⟨g1.ne, by have := g1.len; omega, fun L hL => (g1.all L hL).mono (by decide)⟩⟩
    · obtain ⟨L1, r3, a5, a6, k1, g1, h3⟩ := inner15 hln (by decide) (by decide) h2 (.int 0) (.val d) s4 s5 s6
      obtain ⟨L2, r4, b5, b6, k2, g2, h4⟩ := inner15 g1 (by decide) (by decide) h3 (.int 1) (.val d) (.val (.int 0)) a5 a6
      have hrl : rngL 0 2 = [.int 0, .int 1] := rfl
      rw [hrl, for_cons k1, for_cons k2]
      exact ⟨_, rfl, _, _, _, _, _, rfl, h4, ⟨g2.ne, by have := g2.len; omega, fun L hL => (g2.all L hL).mono (by decide)⟩⟩
  obtain ⟨e', hl, Ls, b4, b5, b6, row3, rfl, h3, g⟩ := loop
  have q2 : LWq2 (G15 (linesOf r) (.val d) s4 s5 s6 row1) = .ok .nx (G15 Ls (.val d) b4 b5 b6 row3) := by
    unfold LWq2 forL
    have ha : listM (consM (callM F__law_pick (consM (readM 1) (consM (pureM (.int 3)) (pureM [])))) (pureM [])) range1D (G15 (linesOf r) (.val d) s4 s5 s6 row1) = .ok (rngL 0 c) (G15 (linesOf r) (.val d) s4 s5 s6 row2) := by
      unfold G15
      generalize (linesOf r).map D.str = lm at *
      simp [e2, hr]
    unfold bindM
    rw [ha]
    exact hl
  obtain ⟨hj, tok⟩ := g.text (by decide) (by decide)
  have ht := told15 tok row3
  have hd := e_due15 tok row3
  have q3 : LWq3 (G15 Ls (.val d) b4 b5 b6 row3) = .ok .nx (G15 Ls (.val d) b4 b5 b6 row3) := by
    have hj : joinF "\n" (.lst (Ls.map D.str)) = some (.str (Txt.join "\n" Ls)) := hj
    unfold G15
    cases e : verd (Ls.map wordsOf) with
    | inl nf =>
      rw [e] at ht hd
      have hn := ne_self (out_plain nf)
      have ho : outD (.inl nf) = .lst [.str "line", .int nf.1, .int nf.2] := rfl
      rw [ho] at ht hd hn
      have hn : eqDF true (.lst [.str "line", .int nf.1, .int nf.2]) (.lst [.str "line", .int nf.1, .int nf.2]) = some (.bl false) := hn
      generalize Txt.join "\n" Ls = T at *
      generalize Ls.map D.str = lm at *
      generalize [D.str "line", .int nf.1, .int nf.2] = ol at *
      simp [LWq3, hj, ht, hd, hn]
    | inr r2 =>
      rw [e] at ht hd
      have heq : F_eq [.obj r2.ds, .obj r2.ds] row3 = .ret (.bl true) row3 := eq_rule r2 row3
      have hg := fun sl => callG_ok (neg := true) (sl := sl) heq
      have ho : outD (.inr r2) = .obj r2.ds := rfl
      rw [ho] at ht hd
      generalize Txt.join "\n" Ls = T at *
      generalize Ls.map D.str = lm at *
      generalize r2.ds = ol at *
      simp [LWq3, hj, ht, hd, hg]
  refine ⟨G15 Ls (.val d) b4 b5 b6 row3, ?_, _, _, _, _, _, _, rfl, h3⟩
  show b_law_2 ⟨[.no, .val .row, .val d, s3, s4, s5, s6], row⟩ = _
  rw [LWq_eq, seq_ok q1, seq_ok q2, q3]
theorem law_true (ns : List Int) (_ : ns.length ≤ 63) : ∃ e, m_law ⟨.no :: .val .row :: List.replicate 5 .no, row0 ns⟩ = .ok (.rt (.bl true)) e := by
  have h0 : I15 ⟨[.no, .val .row, .no, .no, .no, .no, .no], row0 ns⟩ := ⟨_, _, _, _, _, _, rfl, show (0 : Int) ≤ 0 by decide⟩
  have loop : ∀ (ds : List D) (e : Mi.Env), I15 e → ∃ e', forM' (gN 2) b_law_2 ds e = .ok .nx e' ∧ I15 e' := by
    intro ds
    induction ds with
    | nil => exact fun e h => ⟨e, rfl, h⟩
    | cons d ds ih =>
      intro e h
      obtain ⟨e1, q1, h1⟩ := turn15 d h
      obtain ⟨e2, q2, h2⟩ := ih e1 h1
      exact ⟨e2, by rw [for_cons q1]; exact q2, h2⟩
  obtain ⟨e', ht, s2, s3, s4, s5, s6, row, rfl, _⟩ := loop (rngL 0 8) _ h0
  have hr : range1D [.int 8] = some (rngL 0 8) := range1_ok (by decide)
  have tok : TextOk "" [""] := ⟨by decide +kernel, by decide, by simp, by decide, fun L hL => by
    rw [List.mem_singleton.mp hL]
    exact ⟨fine_nil, by decide⟩⟩
  have told := told15 tok row
  have hv : verd ([("" : Str)].map wordsOf) = .inl (1, 1) := by
    have hw : wordsOf ("" : Str) = [] := by decide +kernel
    rw [List.map_cons, hw]
    exact verd_1 rfl
  rw [hv] at told
  have told : F__law_told_there [.str ""] row = .ret (.lst [.str "line", .int 1, .int 1]) row := told
  have hn : eqDF false (.lst [.str "line", .int 1, .int 1]) (.lst [.str "line", .int 1, .int 1]) = some (.bl true) := eq_self (out_plain (1, 1))
  show ∃ e, m_law ⟨[.no, .val .row, .no, .no, .no, .no, .no], row0 ns⟩ = _
  unfold m_law
  rw [for_head (by simp [hr]) ht]
  refine ⟨⟨[.no, .val .row, s2, s3, s4, s5, s6], row⟩, ?_⟩
  have hod3 : ∀ X : List D, OD.d (.lst X) = .lst X := fun _ => rfl
  simp [told, hn, hod3]
end
end Cut

theorem PySem.Challenge.cw_cutsagain_k15_texts_refused_holds : PySem.Challenge.rw_cutsagain_k15_texts_refused.Holds :=
  Cut.holds Cut.law_true
