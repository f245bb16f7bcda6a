import PyProof.Rows.All
import Wide.All
import OpenK.AllK
import Wide.FinOn
import KE.KStateDown
import KE.KeyNested
import HandS.ForMost
import HandS.Exc
import HandS.More
import HandS.TryOnly
import HandS.ExcOwn
import HandS.WordsExc
import HandS.Defaults
import HandS.HeadHook1
import HandS.HeadHook2
import HandS.Star
import HandS.TupAny
import HandS.TupLe
import HandS.TupMul
import HandS.Deep
import HandS.Conv
import HandS.Style
import HandS.IsInst
import HandS.Wide
import PyProof.P3In
import PyProof.StrOps2
import KE.KDictKeyed
import KE.KDictLaw
import HandS.TupLen
import HandS.Comp
import KE.GoesNewDict
import KE.GoesEnum
import KE.GoesDict
import HandS.Iter
import KE.KDictWalk
import HandS.Small
import HandS.ExcIs
import HandS.TryMany
import HandS.Head0
import HandS.Head1
import HandS.Head2
import HandS.HeadEnd
import HandS.DictComp
import KE.KDictDisplayH
import HandS.ExcInit
import HandS.ExcField
import KE.KExcIs
import HandS.TupSets
import HandS.SetFor
import KE.DataMinMax
import KE.SortData
import KE.KEqDict
import KE.KRevSl
import KE.KDictCopyH
import KE.KDictSum
import HandS.Property
import PyProof.InstNe
import HandS.Text
import HandS.FStr
import KE.DataFind
import KE.DataMinKey
import HandS.SortKw
import KE.GoesNew
import PySem.Challenge.RW_cutsagain_k13_whole_desks
set_option Elab.async false
set_option linter.all false
set_option maxRecDepth 100000
set_option maxHeartbeats 2000000
/-! Mi, part A: data, the mirror's monad, how data stands in the heap, the judgements. -/
namespace Mi
open PySem PySem.Spec PyProof.Rows L2

/-! ### data -/
abbrev St : Type := L2.St
inductive D where
  | non | bl (b : Bool) | int (i : Int) | str (s : Str) | tup (l : List D) | lst (l : List D) | dct (l : List (D × D)) | obj (l : List D) | row
inductive OD where
  | lst (l : List D) | dct (l : List (D × D))
def OD.d : OD → D
  | .lst l => .lst l
  | .dct l => .dct l
inductive Slot where
  | no | val (d : D) | own (o : OD) | pin | box (l : List (D × List D)) | dsk (l : Bool) (o r : D)
/-- a name's own container -/
def Slot.isC : Slot → Bool
  | .own _ => true
  | .box _ => true
  | .dsk _ _ _ => true
  | _ => false
def Slot.isB : Slot → Bool
  | .box _ => true
  | _ => false
structure RowS where
  xs : List Int
  at_ : Int
  big : Int
  seed : Int
structure Env where
  sl : List Slot
  row : RowS
structure Exn where
  cls : Str
  fs : List (Str × D)
inductive Res (α : Type) where
  | ok (a : α) (e : Env) | exc (x : Exn) (e : Env) | err
abbrev M (α : Type) : Type := Env → Res α
def pureM {α : Type} (a : α) : M α := fun e => .ok a e
def bindM {α β : Type} (m : M α) (f : α → M β) : M β := fun e => match m e with
  | .ok a e' => f a e'
  | .exc x e' => .exc x e'
  | .err => .err
def errM {α : Type} : M α := fun _ => .err
def liftO {α : Type} (o : Option α) : M α := fun e => match o with
  | some a => .ok a e
  | none => .err
def Res.wp {α : Type} (r : Res α) (A : α → Env → Prop) (B : Exn → Env → Prop) : Prop := match r with
  | .ok a e => A a e
  | .exc x e => B x e
  | .err => False
theorem wp_mono {α : Type} {r : Res α} {A A' : α → Env → Prop} {B B' : Exn → Env → Prop} (h : r.wp A B) (hA : ∀ a e, A a e → A' a e) (hB : ∀ x e, B x e → B' x e) : r.wp A' B' := by
  cases r with
  | ok a e => exact hA _ _ h
  | exc x e => exact hB _ _ h
  | err => exact h
theorem wp_bind {α β : Type} {m : M α} {f : α → M β} {e : Env} {A : β → Env → Prop} {B : Exn → Env → Prop} : (bindM m f e).wp A B ↔ (m e).wp (fun a e' => (f a e').wp A B) B := by
  unfold bindM
  cases m e with
  | ok a e' => exact Iff.rfl
  | exc x e' => exact Iff.rfl
  | err => exact Iff.rfl

mutual
def D.key : D → Option NestedKey
  | .non => some .none
  | .int i => some (.num i)
  | .str s => some (.text s)
  | .tup l => (D.keys l).map .tup
  | .bl b => some (.num (if b = true then 1 else 0))
  | .lst _ => none
  | .dct _ => none
  | .obj _ => none
  | .row => none
def D.keys : List D → Option (List NestedKey)
  | [] => some []
  | d :: ds => match D.key d, D.keys ds with
    | some k, some ks => some (k :: ks)
    | _, _ => none
end
/-- a dict's key -/
def D.hk (d : D) : Option NestedKey := match d.key with
  | some k => if k.depth ≤ 8 then some k else none
  | none => none
theorem hk_of {d : D} {k : NestedKey} (h : d.hk = some k) : d.key = some k ∧ k.depth ≤ 8 := by
  unfold D.hk at h
  cases e : d.key with
  | none =>
    rw [e] at h
    cases h
  | some k' =>
    rw [e] at h
    by_cases c : k'.depth ≤ 8
    · simp only [if_pos c] at h
      cases h
      exact ⟨rfl, c⟩
    · simp only [if_neg c] at h
      cases h

/-! ### a dict whose keys are nested -/
def DEnt (w : World) (e : NestedKey × V × V) (de : DictEntry) : Prop := de.hash = e.1.hash w ∧ RelV e.2.1 de.key ∧ RelV e.2.2 de.val
/-- all keys are tuples, or all are numbers -/
def Uni (es : List (NestedKey × V × V)) : Prop := (∀ e ∈ es, ∃ a, e.2.1 = .ref a) ∨ (∀ e ∈ es, ∃ i, e.2.1 = .int i)
/-- what is true of a dict's object -/
def DF (w : World) (a : Addr) (es : List (NestedKey × V × V)) (o : Obj) : Prop :=
  (a == sysModules) = false ∧ es.length ≤ sizeLine ∧ (es.map (·.1)).Nodup ∧ Uni es ∧ o.ExactDict ∧ ∃ des ep, o.data = .dict des ep ∧ Paired (DEnt w) es des.toList
/-- this very object stands at a -/
abbrev objO (a : Addr) (o : Obj) : HO := .ext fun h => h.get? a = some o
def DictAt (w : World) (H : Hp) (a : Addr) (es : List (NestedKey × V × V)) : Prop := ∃ o, H a = some (objO a o) ∧ DF w a es o
theorem DictAt.mono {w : World} {H H' : Hp} {a : Addr} {es : List (NestedKey × V × V)} (h : DictAt w H a es) (s : Same H H') : DictAt w H' a es := let ⟨o, h1, h2⟩ := h; ⟨o, s _ _ h1, h2⟩

/-! ### data in the heap -/
/-- the fields of a Rule -/
def ruleF (vs : List V) : List (Str × V) := (["many", "wide", "rows", "low", "high"] : List Str).zip vs
section
variable (w : World) (K : PySem.W.Frag) (ra : Addr)
mutual
inductive Rep (F : Hp) : V → D → Prop
  | non : Rep F .non .non
  | bl (b : Bool) : Rep F (.bl b) (.bl b)
  | int (i : Int) : Rep F (.int i) (.int i)
  | str (s : Str) : Rep F (.str s) (.str s)
  | tup {a : Addr} {vs : List V} {ds : List D} : SqT K F a vs → RepA F vs ds → Rep F (.ref a) (.tup ds)
  | lst {a : Addr} {vs : List V} {ds : List D} : F a = some (.lst vs) → RepA F vs ds → Rep F (.ref a) (.lst ds)
  | dct {a : Addr} {es : List (NestedKey × V × V)} {kvs : List (D × D)} : DictAt w F a es → RepE F es kvs → Rep F (.ref a) (.dct kvs)
  | obj {a dx : Addr} {vs : List V} {ds : List D} : F a = some (.ins (He.ga K "Rule") dx (ruleF vs)) → vs.length = 5 → RepA F vs ds → Rep F (.ref a) (.obj ds)
  | row : Rep F (.ref ra) .row
inductive RepA (F : Hp) : List V → List D → Prop
  | nil : RepA F [] []
  | cons {v : V} {d : D} {vs : List V} {ds : List D} : Rep F v d → RepA F vs ds → RepA F (v :: vs) (d :: ds)
inductive RepE (F : Hp) : List (NestedKey × V × V) → List (D × D) → Prop
  | nil : RepE F [] []
  | cons {k : NestedKey} {kv vv : V} {dk dv : D} {es : List (NestedKey × V × V)} {kvs : List (D × D)} : dk.hk = some k → Rep F kv dk → Rep F vv dv → RepE F es kvs → RepE F ((k, kv, vv) :: es) ((dk, dv) :: kvs)
end
end
theorem Same.seqT {K : PySem.W.Frag} {H H' : Hp} {a : Addr} {xs : List V} (e : Same H H') (h : SqT K H a xs) : SqT K H' a xs := by
  rcases h with (h | ⟨o, h⟩) | h
  · exact .inl (.inl (e _ _ h))
  · exact .inl (.inr ⟨o, e _ _ h⟩)
  · exact .inr h
section
variable {w : World} {K : PySem.W.Frag} {ra : Addr} {F F' : Hp}
mutual
theorem Rep.mono (e : Same F F') : ∀ {v : V} {d : D}, Rep w K ra F v d → Rep w K ra F' v d
  | _, _, .non => .non
  | _, _, .bl b => .bl b
  | _, _, .int i => .int i
  | _, _, .str s => .str s
  | _, _, .tup h r => .tup (Same.seqT e h) (RepA.mono e r)
  | _, _, .lst h r => .lst (e _ _ h) (RepA.mono e r)
  | _, _, .dct h r => .dct (h.mono e) (RepE.mono e r)
  | _, _, .obj h hl r => .obj (e _ _ h) hl (RepA.mono e r)
  | _, _, .row => .row
theorem RepA.mono (e : Same F F') : ∀ {vs : List V} {ds : List D}, RepA w K ra F vs ds → RepA w K ra F' vs ds
  | _, _, .nil => .nil
  | _, _, .cons h r => .cons (Rep.mono e h) (RepA.mono e r)
theorem RepE.mono (e : Same F F') : ∀ {es : List (NestedKey × V × V)} {kvs : List (D × D)}, RepE w K ra F es kvs → RepE w K ra F' es kvs
  | _, _, .nil => .nil
  | _, _, .cons k h1 h2 r => .cons k (Rep.mono e h1) (Rep.mono e h2) (RepE.mono e r)
end
theorem RepA.length : ∀ {vs : List V} {ds : List D}, RepA w K ra F vs ds → vs.length = ds.length
  | _, _, .nil => rfl
  | _, _, .cons _ r => congrArg (· + 1) (RepA.length r)
theorem RepE.length : ∀ {es : List (NestedKey × V × V)} {kvs : List (D × D)}, RepE w K ra F es kvs → es.length = kvs.length
  | _, _, .nil => rfl
  | _, _, .cons _ _ _ r => congrArg (· + 1) (RepE.length r)
theorem RepA.get : ∀ {vs : List V} {ds : List D} {i : Nat} {d : D}, RepA w K ra F vs ds → ds[i]? = some d → ∃ v, vs[i]? = some v ∧ Rep w K ra F v d
  | _, _, i, d, .nil, e => by simp at e
  | _, _, 0, d, .cons h r, e => by
    simp at e
    subst e
    exact ⟨_, rfl, h⟩
  | _, _, i + 1, d, .cons h r, e => by
    obtain ⟨v, h1, h2⟩ := RepA.get (i := i) r (by simpa using e)
    exact ⟨v, by simpa using h1, h2⟩
theorem RepA.get' : ∀ {vs : List V} {ds : List D} {i : Nat} {v : V}, RepA w K ra F vs ds → vs[i]? = some v → ∃ d, ds[i]? = some d ∧ Rep w K ra F v d
  | _, _, i, d, .nil, e => by simp at e
  | _, _, 0, d, .cons h r, e => by
    simp at e
    subst e
    exact ⟨_, rfl, h⟩
  | _, _, i + 1, d, .cons h r, e => by
    obtain ⟨v, h1, h2⟩ := RepA.get' (i := i) r (by simpa using e)
    exact ⟨v, by simpa using h1, h2⟩
theorem RepA.append : ∀ {vs us : List V} {ds es : List D}, RepA w K ra F vs ds → RepA w K ra F us es → RepA w K ra F (vs ++ us) (ds ++ es)
  | _, _, _, _, .nil, h => h
  | _, _, _, _, .cons a r, h => .cons a (RepA.append r h)
theorem RepA.take : ∀ {vs : List V} {ds : List D} (n : Nat), RepA w K ra F vs ds → RepA w K ra F (vs.take n) (ds.take n)
  | _, _, 0, _ => by simp; exact .nil
  | _, _, _ + 1, .nil => .nil
  | _, _, n + 1, .cons a r => .cons a (RepA.take n r)
theorem RepA.drop : ∀ {vs : List V} {ds : List D} (n : Nat), RepA w K ra F vs ds → RepA w K ra F (vs.drop n) (ds.drop n)
  | _, _, 0, r => r
  | _, _, _ + 1, .nil => .nil
  | _, _, n + 1, .cons _ r => RepA.drop n r
theorem RepA.set {v : V} {d : D} (h : Rep w K ra F v d) : ∀ {vs : List V} {ds : List D} (n : Nat), RepA w K ra F vs ds → RepA w K ra F (vs.set n v) (ds.set n d)
  | _, _, 0, .nil => .nil
  | _, _, _ + 1, .nil => .nil
  | _, _, 0, .cons _ r => .cons h r
  | _, _, n + 1, .cons a r => .cons a (RepA.set h n r)
theorem RepA.reverse : ∀ {vs : List V} {ds : List D}, RepA w K ra F vs ds → RepA w K ra F vs.reverse ds.reverse
  | _, _, .nil => .nil
  | _, _, .cons a r => by
    rw [List.reverse_cons, List.reverse_cons]
    exact RepA.append (RepA.reverse r) (.cons a .nil)
theorem RepA.ints : ∀ {vs : List V} {is : List Int}, RepA w K ra F vs (is.map D.int) → vs = is.map V.int
  | vs, [], h => by
    cases h
    rfl
  | vs, i :: is, h => by
    cases h with
    | cons a r =>
      cases a
      rw [RepA.ints r]
      rfl
theorem RepA.ofInts : ∀ (is : List Int), RepA w K ra F (is.map V.int) (is.map D.int)
  | [] => .nil
  | i :: is => .cons (.int i) (RepA.ofInts is)
end

/-! ### the state -/
/-- what is to stand as it is; what is not to be given away -/
structure Kp where
  h : Hp
  pin : Addr → Prop
  me : V := .non
section
variable (w : World) (K : PySem.W.Frag) (ra : Addr)
def RepO (F H : Hp) (a : Addr) : OD → Prop
  | .lst ds => ∃ vs, H a = some (.lst vs) ∧ RepA w K ra F vs ds
  | .dct kvs => ∃ es, DictAt w H a es ∧ RepE w K ra F es kvs
/-- a dict whose values are lists that nobody else knows -/
inductive RepB (F H : Hp) : List (NestedKey × V × V) → List (D × List D) → Prop
  | nil : RepB F H [] []
  | cons {k : NestedKey} {kv : V} {b : Addr} {vs : List V} {dk : D} {ds : List D} {es : List (NestedKey × V × V)} {kls : List (D × List D)} : dk.hk = some k → Rep w K ra F kv dk → H b = some (.lst vs) → RepA w K ra F vs ds → RepB F H es kls → RepB F H ((k, kv, .ref b) :: es) ((dk, ds) :: kls)
/-- what a dict holds -/
def Inn (H : Hp) (a p : Addr) : Prop := ∃ o des ep, H a = some (objO a o) ∧ o.data = .dict des ep ∧ ∃ de ∈ des.toList, de.val = Value.ref p
/-- where a name's own container stands -/
def Foot (H : Hp) (s : Slot) (a p : Addr) : Prop := p = a ∨ (s.isB = true ∧ Inn H a p)
def BoxAt (HK : Kp) (F H : Hp) (a : Addr) (l : List (D × List D)) : Prop := ∃ es, DictAt w H a es ∧ RepB w K ra F H es l ∧ (es.map (·.2.2)).Nodup ∧ ∀ p, (p = a ∨ Inn H a p) → F p = none ∧ HK.h p = none ∧ p ≠ ra ∧ H p ≠ none
/-- a desk stands at a -/
def deskF (v1 v2 : V) : List (Str × V) := [("own", v1), ("rows", v2)]
def DeskAt (F H : Hp) (a : Addr) (o r : D) : Prop := ∃ dx v1 v2, H a = some (.ins (He.ga K "Desk") dx (deskF v1 v2)) ∧ Rep w K ra F v1 o ∧ Rep w K ra F v2 r
def SlotOk (HK : Kp) (F H : Hp) (ov : Option (Option V)) : Slot → Prop
  | .dsk l o r => ∃ a, ov = some (some (.ref a)) ∧ DeskAt w K ra F H a o r ∧ F a = none ∧ HK.h a = none ∧ a ≠ ra ∧ (l = true → HK.me = .ref a)
  | .no => True
  | .val d => ∃ v, ov = some (some v) ∧ Rep w K ra F v d
  | .own o => ∃ a, ov = some (some (.ref a)) ∧ RepO w K ra F H a o ∧ F a = none ∧ HK.h a = none ∧ a ≠ ra
  | .pin => ov = some (some HK.me)
  | .box l => ∃ a, ov = some (some (.ref a)) ∧ BoxAt w K ra HK F H a l
/-- no two names' containers stand at the same place -/
def Sep (e : Env) (σ : St) (H : Hp) : Prop := ∀ (i j : Nat) (s s' : Slot) (a a' p : Addr), i ≠ j → e.sl[i]? = some s → e.sl[j]? = some s' → s.isC = true → s'.isC = true → σ[i]? = some (some (.ref a)) → σ[j]? = some (some (.ref a')) → Foot H s a p → ¬ Foot H s' a' p
/-- a place that no name's container takes -/
def NotIn (e : Env) (σ : St) (H : Hp) (p : Addr) : Prop := ∀ (i : Nat) (s : Slot) (a : Addr), e.sl[i]? = some s → s.isC = true → σ[i]? = some (some (.ref a)) → ¬ Foot H s a p
def RowOk (F H : Hp) (r : RowS) : Prop := (r.at_ < 0 ∧ H ra ≠ none) ∨ ∃ L, H ra = some (.lst [.ref L, .int r.at_, .int r.big, .int r.seed]) ∧ F L = some (.lst (r.xs.map V.int))
structure Rel (HK : Kp) (F : Hp) (e : Env) (σ : St) (H : Hp) : Prop where
  fh : Same F H
  kh : Same HK.h H
  len : e.sl.length = σ.length
  sl : ∀ (i : Nat) (s : Slot), e.sl[i]? = some s → SlotOk w K ra HK F H σ[i]? s
  sep : Sep e σ H
  row : RowOk ra F H e.row
  fra : F ra = none
  kra : HK.h ra = none
  pn : ∀ a, HK.pin a → HK.h a ≠ none ∧ F a = none
end
section
variable {w : World} {K : PySem.W.Frag} {ra : Addr} {HK : Kp} {F F' H H' : Hp} {e : Env} {σ : St}
theorem Inn.congr {a p : Addr} (h : H' a = H a) : Inn H' a p ↔ Inn H a p := by
  unfold Inn
  rw [h]
theorem Foot.congr {s : Slot} {a p : Addr} (h : H' a = H a) : Foot H' s a p ↔ Foot H s a p := by
  unfold Foot
  rw [Inn.congr h]
theorem mem_paired {α β : Type} {R : α → β → Prop} : ∀ {l : List α} {m : List β}, Paired R l m → ∀ x ∈ l, ∃ y ∈ m, R x y
  | _, _, .nil, x, h => by cases h
  | _, _, .cons r t, x, h => by
    rcases List.mem_cons.mp h with rfl | h
    · exact ⟨_, List.mem_cons_self, r⟩
    · obtain ⟨y, h1, h2⟩ := mem_paired t x h
      exact ⟨y, List.mem_cons_of_mem _ h1, h2⟩
theorem mem_paired' {α β : Type} {R : α → β → Prop} : ∀ {l : List α} {m : List β}, Paired R l m → ∀ y ∈ m, ∃ x ∈ l, R x y
  | _, _, .nil, x, h => by cases h
  | _, _, .cons r t, x, h => by
    rcases List.mem_cons.mp h with rfl | h
    · exact ⟨_, List.mem_cons_self, r⟩
    · obtain ⟨y, h1, h2⟩ := mem_paired' t x h
      exact ⟨y, List.mem_cons_of_mem _ h1, h2⟩
/-- what stands in a dict is in it -/
theorem DictAt.inn {a p : Addr} {es : List (NestedKey × V × V)} (h : DictAt w H a es) {e : NestedKey × V × V} (he : e ∈ es) (hp : e.2.2 = .ref p) : Inn H a p := by
  obtain ⟨o, h1, _, _, _, _, _, des, ep, hd, pr⟩ := h
  obtain ⟨de, m, _, _, r⟩ := mem_paired pr e he
  rw [hp] at r
  exact ⟨o, des, ep, h1, hd, de, m, r⟩
theorem objO_inj {a : Addr} {o o' : Obj} (hd : ∀ c d s, o ≠ ⟨c, d, .freed, s⟩) (h : objO a o = objO a o') : o = o' := by
  injection h with h
  have h2 := congrFun h ⟨Array.replicate (a + 1) o, {}⟩
  have h3 : Heap.get? ⟨Array.replicate (a + 1) o, {}⟩ a = some o := by
    unfold Heap.get?
    simp only [Array.getElem?_replicate, Nat.lt_succ_self, if_true]
    split
    · rename_i c d s e
      exact absurd (Option.some.inj e) (hd c d s)
    · rfl
  have h4 : Heap.get? ⟨Array.replicate (a + 1) o, {}⟩ a = some o' := by rw [← h2]; exact h3
  rw [h3] at h4
  exact Option.some.inj h4
theorem RelV.isRef {v : V} {p : Addr} (h : RelV v (Value.ref p)) : v = .ref p := by
  cases v with
  | ref a =>
    have : Value.ref p = Value.ref a := h
    injection this with e
    rw [e]
  | non => cases (show Value.ref p = _ from h)
  | bl b => cases (show Value.ref p = _ from h)
  | ty n => cases (show Value.ref p = _ from h)
  | int i => obtain ⟨t, e⟩ := h; cases e
  | str i => obtain ⟨t, e⟩ := h; cases e
  | byt i => obtain ⟨t, e⟩ := h; cases e
  | flt i => obtain ⟨t, e⟩ := h; cases e
/-- .. and nothing else -/
theorem DF.inn {a p : Addr} {es : List (NestedKey × V × V)} {o : Obj} (h : DF w a es o) (h1 : H a = some (objO a o)) (q : Inn H a p) : ∃ e ∈ es, e.2.2 = .ref p := by
  obtain ⟨_, _, _, _, _, des, ep, hd, pr⟩ := h
  obtain ⟨o', des', ep', h2, hd', de, m, r⟩ := q
  rw [h1] at h2
  have e := objO_inj (fun c d s z => by rw [z] at hd; cases hd) (Option.some.inj h2)
  subst e
  rw [hd] at hd'
  injection hd' with e1 e2
  subst e1
  obtain ⟨x, hx, _, _, rv⟩ := mem_paired' pr de m
  rw [r] at rv
  exact ⟨x, hx, RelV.isRef rv⟩
theorem RepB.mono {es : List (NestedKey × V × V)} {l : List (D × List D)} (h : RepB w K ra F H es l) (a : Same F F') (b : ∀ e ∈ es, ∀ p, e.2.2 = .ref p → H' p = H p) : RepB w K ra F' H' es l := by
  induction h with
  | nil => exact .nil
  | cons hk r hb ra' _ ih => exact .cons hk (r.mono a) ((b _ List.mem_cons_self _ rfl).trans hb) (ra'.mono a) (ih fun e he => b e (List.mem_cons_of_mem _ he))
theorem BoxAt.mono {a : Addr} {l : List (D × List D)} (h : BoxAt w K ra HK F H a l) (s : Same F F') (b : ∀ p, (p = a ∨ Inn H a p) → H' p = H p ∧ F' p = F p) : BoxAt w K ra HK F' H' a l := by
  obtain ⟨es, at_, r, nd, f⟩ := h
  have ha := (b a (.inl rfl)).1
  refine ⟨es, ?_, r.mono s fun e he p hp => (b p (.inr (at_.inn he hp))).1, nd, fun p hp => ?_⟩
  · obtain ⟨o, h1, h2⟩ := at_
    exact ⟨o, ha.trans h1, h2⟩
  · have hp' : p = a ∨ Inn H a p := hp.imp id (Inn.congr ha).mp
    obtain ⟨f1, f2, f3, f4⟩ := f p hp'
    obtain ⟨b1, b2⟩ := b p hp'
    exact ⟨b2.trans f1, f2, f3, by rw [b1]; exact f4⟩
theorem DeskAt.mono {a : Addr} {o r : D} (h : DeskAt w K ra F H a o r) (s : Same F F') (b : H' a = H a) : DeskAt w K ra F' H' a o r := by
  obtain ⟨dx, v1, v2, h1, h2, h3⟩ := h
  exact ⟨dx, v1, v2, b.trans h1, h2.mono s, h3.mono s⟩
theorem SlotOk.mono {ov : Option (Option V)} {s : Slot} (h : SlotOk w K ra HK F H ov s) (a : Same F F') (b : ∀ q, s.isC = true → ov = some (some (.ref q)) → ∀ p, Foot H s q p → H' p = H p ∧ F' p = F p) : SlotOk w K ra HK F' H' ov s := by
  cases s with
  | no => trivial
  | pin => exact h
  | dsk l o r =>
    obtain ⟨p, e1, r1, f, k, n⟩ := h
    obtain ⟨b1, b2⟩ := b p rfl e1 p (.inl rfl)
    exact ⟨p, e1, r1.mono a b1, b2.trans f, k, n⟩
  | box l =>
    obtain ⟨p, e1, r⟩ := h
    exact ⟨p, e1, r.mono a fun q hq => b p rfl e1 q (hq.imp id fun z => ⟨rfl, z⟩)⟩
  | val d =>
    obtain ⟨v, e1, r⟩ := h
    exact ⟨v, e1, r.mono a⟩
  | own o =>
    obtain ⟨p, e1, r, f, k, n⟩ := h
    obtain ⟨b1, b2⟩ := b p rfl e1 p (.inl rfl)
    refine ⟨p, e1, ?_, b2.trans f, k, n⟩
    cases o with
    | lst ds =>
      obtain ⟨vs, h1, h2⟩ := r
      exact ⟨vs, b1.trans h1, h2.mono a⟩
    | dct kvs =>
      obtain ⟨es, ⟨o, h1, h3⟩, h2⟩ := r
      exact ⟨es, ⟨o, b1.trans h1, h3⟩, h2.mono a⟩
theorem RowOk.mono {r : RowS} (h : RowOk ra F H r) (a : Same F F') (b : H' ra = H ra) : RowOk ra F' H' r := by
  rcases h with ⟨h1, h2⟩ | ⟨L, h1, h2⟩
  · exact .inl ⟨h1, by rw [b]; exact h2⟩
  · exact .inr ⟨L, b.trans h1, a _ _ h2⟩
theorem RowOk.alive {r : RowS} (h : RowOk ra F H r) (a : ¬ r.at_ < 0) : ∃ L, H ra = some (.lst [.ref L, .int r.at_, .int r.big, .int r.seed]) ∧ F L = some (.lst (r.xs.map V.int)) := h.resolve_left fun z => a z.1
theorem Rel.own_some (R : Rel w K ra HK F e σ H) {i : Nat} {o : OD} {p : Addr} (h : e.sl[i]? = some (.own o)) (hs : σ[i]? = some (some (.ref p))) : H p ≠ none := by
  obtain ⟨q, e1, r, _⟩ := R.sl i _ h
  rw [hs] at e1
  cases e1
  cases o with
  | lst ds =>
    obtain ⟨vs, h1, _⟩ := r
    rw [h1]
    exact fun z => by cases z
  | dct kvs =>
    obtain ⟨es, ⟨o, h1, _⟩, _⟩ := r
    rw [h1]
    exact fun z => by cases z
/-- where containers stand, nobody else stands -/
theorem Rel.foot (R : Rel w K ra HK F e σ H) {i : Nat} {s : Slot} {a p : Addr} (h : e.sl[i]? = some s) (hc : s.isC = true) (hs : σ[i]? = some (some (.ref a))) (hf : Foot H s a p) : F p = none ∧ HK.h p = none ∧ p ≠ ra ∧ H p ≠ none := by
  have ok := R.sl i s h
  cases s with
  | own o =>
    obtain ⟨q, e1, r, fa, ka, na⟩ := ok
    rw [hs] at e1
    cases e1
    rcases hf with rfl | ⟨z, _⟩
    · exact ⟨fa, ka, na, R.own_some h hs⟩
    · cases z
  | box l =>
    obtain ⟨q, e1, es, _, _, _, f⟩ := ok
    rw [hs] at e1
    cases e1
    exact f p (hf.imp id fun z => z.2)
  | dsk l o r =>
    obtain ⟨q, e1, r1, fa, ka, na⟩ := ok
    rw [hs] at e1
    cases e1
    rcases hf with rfl | ⟨z, _⟩
    · obtain ⟨dx, v1, v2, h1, _⟩ := r1
      exact ⟨fa, ka, na.1, by rw [h1]; exact fun z => by cases z⟩
    · cases z
  | _ => cases hc
theorem Sep.heap (S : Sep e σ H) (k : ∀ (i : Nat) (s : Slot) (a : Addr), e.sl[i]? = some s → s.isC = true → σ[i]? = some (some (.ref a)) → H' a = H a) : Sep e σ H' := fun i j s s' a a' p hij h1 h2 c1 c2 h3 h4 f => by
  rw [Foot.congr (k j s' a' h2 c2 h4)]
  rw [Foot.congr (k i s a h1 c1 h3)] at f
  exact S i j s s' a a' p hij h1 h2 c1 c2 h3 h4 f
theorem Rel.sep_new (R : Rel w K ra HK F e σ H) {p : Addr} (hp : H p = none) (o : HO) : Sep e σ (upd H p o) := R.sep.heap fun i s a h c hs => upd_ne fun z => (R.foot h c hs (.inl rfl)).2.2.2 (z ▸ hp)
theorem NotIn.heap {p : Addr} (N : NotIn e σ H p) (k : ∀ (i : Nat) (s : Slot) (a : Addr), e.sl[i]? = some s → s.isC = true → σ[i]? = some (some (.ref a)) → H' a = H a) : NotIn e σ H' p := fun i s a h c hs f => N i s a h c hs ((Foot.congr (k i s a h c hs)).mp f)
theorem Rel.notIn_new (R : Rel w K ra HK F e σ H) {p : Addr} (hp : H p = none) (o : HO) : NotIn e σ (upd H p o) p := fun i s a h c hs f => by
  have ne : a ≠ p := fun z => (R.foot h c hs (.inl rfl)).2.2.2 (by rw [z]; exact hp)
  exact (R.foot h c hs ((Foot.congr (upd_ne ne)).mp f)).2.2.2 hp
theorem NotIn.ne {p : Addr} (N : NotIn e σ H p) {i : Nat} {s : Slot} (h : e.sl[i]? = some s) (c : s.isC = true) : σ[i]? ≠ some (some (.ref p)) := fun z => N i s p h c z (.inl rfl)
/-- one slot changed: none of one's own any more -/
theorem Sep.off (S : Sep e σ H) {i : Nat} {s : Slot} (hc : s.isC = false) (ov : Option V) : Sep { e with sl := e.sl.set i s } (σ.set i ov) H := fun j k s1 s2 a a' p hjk h1 h2 c1 c2 h3 h4 f => by
  have out : ∀ {m : Nat} {t : Slot}, (e.sl.set i s)[m]? = some t → t.isC = true → i ≠ m := fun {m t} h c z => by
    subst z
    have hi : i < e.sl.length := by
      have := (List.getElem?_eq_some_iff.mp h).1
      rw [List.length_set] at this
      exact this
    rw [List.getElem?_set_self hi] at h
    cases h
    rw [hc] at c
    cases c
  have nj := out h1 c1
  have nk := out h2 c2
  simp only [List.getElem?_set_ne nj] at h1 h3
  simp only [List.getElem?_set_ne nk] at h2 h4
  exact S j k s1 s2 a a' p hjk h1 h2 c1 c2 h3 h4 f
theorem set_id {σ : St} {i : Nat} {ov : Option V} (h : σ[i]? = some ov) : σ.set i ov = σ := by
  apply List.ext_getElem?
  intro j
  by_cases c : i = j
  · subst c
    rw [List.getElem?_set_self (List.getElem?_eq_some_iff.mp h).1, h]
  · rw [List.getElem?_set_ne c]
/-- .. with the name as it was -/
theorem Sep.off' (S : Sep e σ H) {i : Nat} {s : Slot} (hc : s.isC = false) : Sep { e with sl := e.sl.set i s } σ H := fun j k s1 s2 a a' p hjk h1 h2 c1 c2 h3 h4 f => by
  have out : ∀ {m : Nat} {t : Slot}, (e.sl.set i s)[m]? = some t → t.isC = true → i ≠ m := fun {m t} h c z => by
    subst z
    have hi : i < e.sl.length := by
      have := (List.getElem?_eq_some_iff.mp h).1
      rw [List.length_set] at this
      exact this
    rw [List.getElem?_set_self hi] at h
    cases h
    rw [hc] at c
    cases c
  have nj := out h1 c1
  have nk := out h2 c2
  simp only [List.getElem?_set_ne nj] at h1
  simp only [List.getElem?_set_ne nk] at h2
  exact S j k s1 s2 a a' p hjk h1 h2 c1 c2 h3 h4 f
/-- one slot changed: a container that stands where no other stands -/
theorem Sep.on (S : Sep e σ H) {i : Nat} {s : Slot} {a : Addr} (hi : i < σ.length) (k : ∀ (j : Nat) (s' : Slot) (a' p : Addr), i ≠ j → e.sl[j]? = some s' → s'.isC = true → σ[j]? = some (some (.ref a')) → Foot H s a p → ¬ Foot H s' a' p) : Sep { e with sl := e.sl.set i s } (σ.set i (some (.ref a))) H := fun j l s1 s2 b b' p hjl h1 h2 c1 c2 h3 h4 f => by
  have at_ : ∀ {m : Nat} {t : Slot} {b : Addr}, i = m → (e.sl.set i s)[m]? = some t → (σ.set i (some (V.ref a)))[m]? = some (some (.ref b)) → t = s ∧ b = a := fun {m t b} z h h' => by
    subst z
    have hl : i < e.sl.length := by
      have := (List.getElem?_eq_some_iff.mp h).1
      rw [List.length_set] at this
      exact this
    rw [List.getElem?_set_self hl] at h
    rw [List.getElem?_set_self hi] at h'
    cases h
    cases h'
    exact ⟨rfl, rfl⟩
  by_cases c : i = j
  · obtain ⟨e1, e2⟩ := at_ c h1 h3
    subst e1 e2
    have n : i ≠ l := fun z => hjl (c.symm.trans z)
    simp only [List.getElem?_set_ne n] at h2 h4
    exact k l s2 b' p n h2 c2 h4 f
  · simp only [List.getElem?_set_ne c] at h1 h3
    by_cases c' : i = l
    · obtain ⟨e1, e2⟩ := at_ c' h2 h4
      subst e1 e2
      exact fun f2 => k j s1 b p c h1 c1 h3 f2 f
    · simp only [List.getElem?_set_ne c'] at h2 h4
      exact S j l s1 s2 b b' p hjl h1 h2 c1 c2 h3 h4 f
theorem Rel.ra_some (R : Rel w K ra HK F e σ H) : H ra ≠ none := by
  rcases R.row with ⟨_, h⟩ | ⟨L, h1, _⟩
  · exact h
  · rw [h1]
    exact fun z => by cases z
theorem same_new {p : Addr} {o : HO} (h : H p = none) : Same H (upd H p o) := fun b u q => by
  rw [upd_ne (ne_of_none q h)]
  exact q
/-- a new object, frozen at once -/
theorem Rel.alloc (R : Rel w K ra HK F e σ H) {p : Addr} (hp : H p = none) (o : HO) : Rel w K ra HK (upd F p o) e σ (upd H p o) ∧ Same F (upd F p o) := by
  have fp : F p = none := R.fh.free hp
  have sf : Same F (upd F p o) := same_new fp
  have nra : ra ≠ p := fun z => R.ra_some (z ▸ hp)
  refine ⟨⟨fun b u q => ?_, fun b u q => ?_, R.len, fun i s h => ?_, R.sep_new hp o, R.row.mono sf (upd_ne nra), by rw [upd_ne nra]; exact R.fra, R.kra, fun b hb => ⟨(R.pn b hb).1, by rw [upd_ne fun z => (R.pn b hb).1 (by rw [z]; exact R.kh.free hp)]; exact (R.pn b hb).2⟩⟩, sf⟩
  · by_cases hb : b = p
    · subst hb
      rw [upd_same] at q ⊢
      exact q
    · rw [upd_ne hb] at q ⊢
      exact R.fh b u q
  · rw [upd_ne (ne_of_none (R.kh b u q) hp)]
    exact R.kh b u q
  · refine (R.sl i s h).mono sf fun q hc e1 p' hf => ?_
    have nq : p' ≠ p := fun z => (R.foot h hc e1 hf).2.2.2 (z ▸ hp)
    exact ⟨upd_ne nq, upd_ne nq⟩
/-- a new object that nobody knows yet -/
theorem Rel.grow (R : Rel w K ra HK F e σ H) {p : Addr} (hp : H p = none) (o : HO) : Rel w K ra HK F e σ (upd H p o) := by
  have nra : ra ≠ p := fun z => R.ra_some (z ▸ hp)
  refine ⟨fun b u q => ?_, fun b u q => ?_, R.len, fun i s h => ?_, R.sep_new hp o, R.row.mono (Same.refl F) (upd_ne nra), R.fra, R.kra, R.pn⟩
  · rw [upd_ne (ne_of_none (R.fh b u q) hp)]
    exact R.fh b u q
  · rw [upd_ne (ne_of_none (R.kh b u q) hp)]
    exact R.kh b u q
  · refine (R.sl i s h).mono (Same.refl F) fun q hc e1 p' hf => ?_
    exact ⟨upd_ne fun z => (R.foot h hc e1 hf).2.2.2 (z ▸ hp), rfl⟩
end

/-! ### readings -/
/-- an exception as the mirror tells it -/
def ExIs (w : World) (K : PySem.W.Frag) (ra : Addr) (F H : Hp) (x : Exn) (cls : Value) (d : Option Addr) : Prop :=
  cls = .ref (He.ga K x.cls) ∧ ((x.fs = [] ∧ d = none) ∨ x.fs ≠ [] ∧ ∃ dd vs, d = some dd ∧ H dd = some (.xd ((x.fs.map (·.1)).zip vs)) ∧ RepA w K ra F vs (x.fs.map (·.2)) ∧ F dd = none ∧ dd ≠ ra)
def exW (w : World) (K : PySem.W.Frag) (ra : Addr) (HK : Kp) (F : Hp) (W : WX) : Exn → Env → Prop := fun x e' => ∀ cls d σ' F' H', Same F F' → Rel w K ra HK F' e' σ' H' → ExIs w K ra F' H' x cls d → W cls d σ' H'
theorem exW_mono {w : World} {K : PySem.W.Frag} {ra : Addr} {HK : Kp} {F F1 : Hp} {W : WX} (s : Same F F1) {x : Exn} {e' : Env} (h : exW w K ra HK F W x e') : exW w K ra HK F1 W x e' := fun cls d σ' F' H' s' => h cls d σ' F' H' (s.trans s')
/-- how a result of the machine (β) stands for one of the mirror (α): HK, σ, the mirror's state, F, H -/
abbrev RT (β α : Type) := World → PySem.W.Frag → Addr → Kp → St → Env → Hp → Hp → β → α → Prop
def okG {β α : Type} (T : RT β α) (w : World) (K : PySem.W.Frag) (ra : Addr) (HK : Kp) (F : Hp) (σ : St) (Q : β → Hp → Prop) : α → Env → Prop := fun a e' => ∀ b F' H', Same F F' → Rel w K ra HK F' e' σ H' → T w K ra HK σ e' F' H' b a → Q b H'
def tG {β α : Type} (T : RT β α) (w : World) (K : PySem.W.Frag) (W : WX) (m : M α) : St → Hp → (β → Hp → Prop) → Prop := fun σ H Q =>
  ∃ ra HK F e, Rel w K ra HK F e σ H ∧ (m e).wp (okG T w K ra HK F σ Q) (exW w K ra HK F W)
def TV : RT V D := fun w K ra _ _ _ F _ v d => Rep w K ra F v d
def TAs : RT (List V) (List D) := fun w K ra _ _ _ F _ v d => RepA w K ra F v d
def TB : RT Bool Bool := fun _ _ _ _ _ _ _ _ b b' => b = b'
/-- a container by its name (slot i), or a value -/
inductive Ref where
  | val (d : D) | slot (i : Nat)
def TR : RT V Ref := fun w K ra _ σ _ F _ v r => match r with
  | .val d => Rep w K ra F v d
  | .slot i => σ[i]? = some (some v)
/-- a new container that nobody else knows -/
def TO : RT V OD := fun w K ra HK σ e F H v o => ∃ a, v = .ref a ∧ RepO w K ra F H a o ∧ F a = none ∧ HK.h a = none ∧ a ≠ ra ∧ NotIn e σ H a
theorem okG_mono {β α : Type} {T : RT β α} {w : World} {K : PySem.W.Frag} {ra : Addr} {HK : Kp} {F F1 : Hp} {σ : St} {Q : β → Hp → Prop} (s : Same F F1) {a : α} {e' : Env} (h : okG T w K ra HK F σ Q a e') : okG T w K ra HK F1 σ Q a e' :=
  fun b F' H' s' => h b F' H' (s.trans s')
/-- THE STEP: a part is read, what follows is still told by the mirror -/
theorem step {β α γ : Type} {T : RT β α} {w : World} {K : PySem.W.Frag} {ra : Addr} {HK : Kp} {F H : Hp} {W : WX} {e : Env} {σ : St} {m : M α} {g : α → M γ} {A : Hp → γ → Env → Prop} {Q : β → Hp → Prop} (R : Rel w K ra HK F e σ H)
    (h : (bindM m g e).wp (A F) (exW w K ra HK F W)) (hA : ∀ F' c e', Same F F' → A F c e' → A F' c e')
    (k : ∀ F' e' a b H', Same F F' → Rel w K ra HK F' e' σ H' → T w K ra HK σ e' F' H' b a → (g a e').wp (A F') (exW w K ra HK F' W) → Q b H') : tG T w K W m σ H Q :=
  ⟨ra, HK, F, e, R, wp_mono (wp_bind.mp h) (fun a e' h' b F' H' s R' r => k F' e' a b H' s R' r (wp_mono h' (fun c e2 q => hA F' c e2 s q) fun x e2 q => exW_mono s q)) fun _ _ q => q⟩
theorem stepG {β α δ γ : Type} {T : RT β α} {T' : RT δ γ} {w : World} {K : PySem.W.Frag} {ra : Addr} {HK : Kp} {F H : Hp} {W : WX} {e : Env} {σ : St} {m : M α} {g : α → M γ} {Q' : δ → Hp → Prop} {Q : β → Hp → Prop} (R : Rel w K ra HK F e σ H)
    (h : (bindM m g e).wp (okG T' w K ra HK F σ Q') (exW w K ra HK F W))
    (k : ∀ F' e' a b H', Same F F' → Rel w K ra HK F' e' σ H' → T w K ra HK σ e' F' H' b a → (g a e').wp (okG T' w K ra HK F' σ Q') (exW w K ra HK F' W) → Q b H') : tG T w K W m σ H Q :=
  step (A := fun F => okG T' w K ra HK F σ Q') R h (fun F' c e' s q => okG_mono s q) k
/-- the last part: its value is the whole's -/
theorem last {β α : Type} {T : RT β α} {w : World} {K : PySem.W.Frag} {ra : Addr} {HK : Kp} {F H : Hp} {W : WX} {e : Env} {σ : St} {m : M α} {Q : β → Hp → Prop} (R : Rel w K ra HK F e σ H) (h : (m e).wp (okG T w K ra HK F σ Q) (exW w K ra HK F W)) : tG T w K W m σ H Q :=
  ⟨ra, HK, F, e, R, h⟩

/-! ### the judgements -/
section
variable (X : Cx) (W : WX)
def PM (e : Expr) (m : M D) : Prop := PE X e (tG TV X.w X.K W m)
def PMT (e : Expr) (m : M Bool) : Prop := PT X e (tG TB X.w X.K W m)
def PMW (e : Expr) (m : M Bool) : Prop := PW X e (tG TB X.w X.K W m)
def PMA (es : List Expr) (m : M (List D)) : Prop := PA X es (tG TAs X.w X.K W m)
def PMR (e : Expr) (m : M Ref) : Prop := PE X e (tG TR X.w X.K W m)
def PMO (e : Expr) (m : M OD) : Prop := PE X e (tG TO X.w X.K W m)
end
section
variable {X : Cx}
theorem PE.weaken {e : Expr} {t t' : TE} (h : PE X e t) (k : ∀ σ H Q, t' σ H Q → t σ H Q) : PE X e t' := ⟨fun pins s σ H Q I hw => h.run pins s σ H Q I (k σ H Q hw)⟩
theorem PT.weaken {e : Expr} {t t' : TT} (h : PT X e t) (k : ∀ σ H Q, t' σ H Q → t σ H Q) : PT X e t' := ⟨fun pins s σ H Q I hw => h.run pins s σ H Q I (k σ H Q hw)⟩
theorem PW.weaken {e : Expr} {t t' : TT} (h : PW X e t) (k : ∀ σ H Q, t' σ H Q → t σ H Q) : PW X e t' := ⟨fun wh pins s σ H Q I hw => h.run wh pins s σ H Q I (k σ H Q hw)⟩
theorem PA.weaken {es : List Expr} {t t' : TA} (h : PA X es t) (k : ∀ σ H Q, t' σ H Q → t σ H Q) : PA X es t' := ⟨fun pos pins s σ H Q I hw => h.run pos pins s σ H Q I (k σ H Q hw)⟩
theorem PS.weaken {st : Stmt} {t t' : TS} (h : PS X st t) (k : ∀ D σ H, t' D σ H → t D σ H) : PS X st t' := ⟨fun pins s σ H D I hw => h.run pins s σ H D I (k D σ H hw)⟩
theorem PSs.weaken {st : List Stmt} {t t' : TS} (h : PSs X st t) (k : ∀ D σ H, t' D σ H → t D σ H) : PSs X st t' := ⟨fun pins s σ H D I hw => h.run pins s σ H D I (k D σ H hw)⟩
end
end Mi

set_option Elab.async false
set_option linter.all false
set_option maxRecDepth 100000
set_option maxHeartbeats 2000000
/-! Mi, part B: names, constants, displays, operators. -/
namespace Mi
open PySem PySem.Spec PyProof.Rows L2

/-! ### the mirror's words -/
/-- a name's value; a container of one's own is given away (from then on nobody changes it) -/
def boxD (l : List (D × List D)) : D := .dct (l.map fun p => (p.1, .lst p.2))
def readM (i : Nat) : M D := fun e => match e.sl[i]? with
  | some (.val d) => .ok d e
  | some (.own o) => .ok o.d { e with sl := e.sl.set i (.val o.d) }
  | some (.box l) => .ok (boxD l) { e with sl := e.sl.set i (.val (boxD l)) }
  | _ => .err
def refM (i : Nat) : M Ref := fun e => match e.sl[i]? with
  | some (.val _) => .ok (.slot i) e
  | some (.own _) => .ok (.slot i) e
  | some (.box _) => .ok (.slot i) e
  | _ => .err
def mapM' {α β : Type} (m : M α) (f : α → β) : M β := bindM m fun a => pureM (f a)
def derefM (r : Ref) : M D := match r with
  | .val d => pureM d
  | .slot i => fun e => match e.sl[i]? with
    | some (.val d) => .ok d e
    | some (.own o) => .ok o.d e
    | _ => .err

section
variable {w : World} {K : PySem.W.Frag} {ra : Addr} {HK : Kp} {F H : Hp} {e : Env} {σ : St}
/-- an owned container is given away -/
theorem Rel.freeze (R : Rel w K ra HK F e σ H) {i : Nat} {o : OD} (h : e.sl[i]? = some (.own o)) :
    ∃ F' a, σ[i]? = some (some (.ref a)) ∧ Same F F' ∧ Rep w K ra F' (.ref a) o.d ∧ Rel w K ra HK F' { e with sl := e.sl.set i (.val o.d) } σ H := by
  obtain ⟨a, e1, r, fa, ka, na⟩ := R.sl i _ h
  have hi : i < e.sl.length := (List.getElem?_eq_some_iff.mp h).1
  obtain ⟨u, hu, rep⟩ : ∃ u, H a = some u ∧ ∀ F', Same F F' → F' a = some u → Rep w K ra F' (.ref a) o.d := by
    cases o with
    | lst ds =>
      obtain ⟨vs, h1, h2⟩ := r
      exact ⟨_, h1, fun F' s q => .lst q (h2.mono s)⟩
    | dct kvs =>
      obtain ⟨es, ⟨o, h1, h3⟩, h2⟩ := r
      exact ⟨_, h1, fun F' s q => .dct ⟨o, q, h3⟩ (h2.mono s)⟩
  have sf : Same F (upd F a u) := same_new fa
  have rp := rep _ sf upd_same
  refine ⟨upd F a u, a, e1, sf, rp, ⟨fun b z q => ?_, R.kh, by rw [List.length_set]; exact R.len, fun j s hj => ?_, R.sep.off' rfl, R.row.mono sf rfl, by rw [upd_ne (Ne.symm na)]; exact R.fra, R.kra, fun b hb => ⟨(R.pn b hb).1, by rw [upd_ne fun z => (R.pn b hb).1 (by rw [z]; exact ka)]; exact (R.pn b hb).2⟩⟩⟩
  · by_cases hb : b = a
    · subst hb
      rw [upd_same] at q
      cases q
      exact hu
    · rw [upd_ne hb] at q
      exact R.fh b z q
  · by_cases hj2 : i = j
    · subst hj2
      rw [List.getElem?_set_self hi] at hj
      cases hj
      exact ⟨_, e1, rp⟩
    · rw [List.getElem?_set_ne hj2] at hj
      refine (R.sl j s hj).mono sf fun q hc eq p hf => ?_
      have : p ≠ a := fun z => R.sep i j _ s a q p hj2 h hj rfl hc e1 eq (.inl z) hf
      exact ⟨rfl, upd_ne this⟩
/-- .. a dict of lists, with all its lists -/
theorem Rel.freezeB (R : Rel w K ra HK F e σ H) {i : Nat} {l : List (D × List D)} (h : e.sl[i]? = some (.box l)) :
    ∃ F' a, σ[i]? = some (some (.ref a)) ∧ Same F F' ∧ Rep w K ra F' (.ref a) (boxD l) ∧ Rel w K ra HK F' { e with sl := e.sl.set i (.val (boxD l)) } σ H := by
  classical
  obtain ⟨a, e1, es, at_, rb, nd, f⟩ := R.sl i _ h
  have hi : i < e.sl.length := (List.getElem?_eq_some_iff.mp h).1
  have ft : ∀ p, Foot H (.box l) a p → p = a ∨ Inn H a p := fun p hp => hp.imp id fun z => z.2
  have tf : ∀ p, p = a ∨ Inn H a p → Foot H (.box l) a p := fun p hp => hp.imp id fun z => ⟨rfl, z⟩
  let F' : Hp := fun p => if Foot H (.box l) a p then H p else F p
  have Fi : ∀ p, Foot H (.box l) a p → F' p = H p := fun p hp => if_pos hp
  have Fo : ∀ p, ¬ Foot H (.box l) a p → F' p = F p := fun p hp => if_neg hp
  have sf : Same F F' := fun b z q => by
    rw [Fo b fun z => by rw [(f b (ft b z)).1] at q; cases q]
    exact q
  have rp : Rep w K ra F' (.ref a) (boxD l) := by
    refine .dct (es := es) ?_ ?_
    · obtain ⟨o, h1, h2⟩ := at_
      exact ⟨o, (Fi a (.inl rfl)).trans h1, h2⟩
    · have key : ∀ {es : List (NestedKey × V × V)} {l : List (D × List D)}, RepB w K ra F H es l → (∀ e ∈ es, ∀ p, e.2.2 = .ref p → F' p = H p) → RepE w K ra F' es (l.map fun p => (p.1, D.lst p.2)) := by
        intro es l rb
        induction rb with
        | nil => exact fun _ => .nil
        | cons hk r hb ra' _ ih => exact fun k => .cons hk (r.mono sf) (.lst ((k _ List.mem_cons_self _ rfl).trans hb) (ra'.mono sf)) (ih fun e he => k e (List.mem_cons_of_mem _ he))
      exact key rb fun e he p hp => Fi p (tf p (.inr (at_.inn he hp)))
  refine ⟨F', a, e1, sf, rp, ⟨fun b z q => ?_, R.kh, by rw [List.length_set]; exact R.len, fun j s hj => ?_, R.sep.off' rfl, R.row.mono sf rfl, ?_, R.kra, fun b hb => ⟨(R.pn b hb).1, ?_⟩⟩⟩
  · by_cases hb : Foot H (.box l) a b
    · rw [Fi b hb] at q
      exact q
    · rw [Fo b hb] at q
      exact R.fh b z q
  · by_cases hj2 : i = j
    · subst hj2
      rw [List.getElem?_set_self hi] at hj
      cases hj
      exact ⟨_, e1, rp⟩
    · rw [List.getElem?_set_ne hj2] at hj
      exact (R.sl j s hj).mono sf fun q hc eq p hf => ⟨rfl, Fo p fun z => R.sep i j _ s a q p hj2 h hj rfl hc e1 eq z hf⟩
  · rw [Fo ra fun z => (f ra (ft ra z)).2.2.1 rfl]
    exact R.fra
  · rw [Fo b fun z => (R.pn b hb).1 (f b (ft b z)).2.1]
    exact (R.pn b hb).2
end

section
variable {X : Cx} {W : WX}
/-! ### names, constants -/
theorem pm_var (i : Nat) {x : Str} {pos : Pos} (hN : X.N[i]? = some x := by rfl) (hv : Vis X.env.scope x := by first | exact Or.inl rfl | exact Or.inr (Or.inl rfl) | exact Or.inr (Or.inr rfl)) (hd : (x == ("__debug__" : Str)) = false := by decide)
    (hcd : (x == ("__classdict__" : Str)) = false := by decide) : PM X W (.Name x pos) (readM i) := by
  refine PE.weaken (pe_var hN hv hd hcd) ?_
  rintro σ H Q ⟨ra, HK, F, e, R, h⟩
  unfold readM at h
  cases q : e.sl[i]? with
  | none =>
    rw [q] at h
    exact h.elim
  | some s =>
    rw [q] at h
    cases s with
    | no => exact h.elim
    | pin => exact h.elim
    | dsk _ _ _ => exact h.elim
    | val d =>
      obtain ⟨v, e1, r⟩ := R.sl i _ q
      exact ⟨v, e1, h v F H (Same.refl F) R r⟩
    | own o =>
      obtain ⟨F', a, e1, s, rp, R'⟩ := R.freeze q
      exact ⟨_, e1, h _ F' H s R' rp⟩
    | box l =>
      obtain ⟨F', a, e1, s, rp, R'⟩ := R.freezeB q
      exact ⟨_, e1, h _ F' H s R' rp⟩
theorem pm_ref (i : Nat) {x : Str} {pos : Pos} (hN : X.N[i]? = some x := by rfl) (hv : Vis X.env.scope x := by first | exact Or.inl rfl | exact Or.inr (Or.inl rfl) | exact Or.inr (Or.inr rfl)) (hd : (x == ("__debug__" : Str)) = false := by decide)
    (hcd : (x == ("__classdict__" : Str)) = false := by decide) : PMR X W (.Name x pos) (refM i) := by
  refine PE.weaken (pe_var hN hv hd hcd) ?_
  rintro σ H Q ⟨ra, HK, F, e, R, h⟩
  unfold refM at h
  cases q : e.sl[i]? with
  | none =>
    rw [q] at h
    exact h.elim
  | some s =>
    rw [q] at h
    cases s with
    | no => exact h.elim
    | pin => exact h.elim
    | dsk _ _ _ => exact h.elim
    | val d =>
      obtain ⟨v, e1, r⟩ := R.sl i _ q
      exact ⟨v, e1, h v F H (Same.refl F) R e1⟩
    | own o =>
      obtain ⟨a, e1, r, _⟩ := R.sl i _ q
      exact ⟨_, e1, h _ F H (Same.refl F) R e1⟩
    | box o =>
      obtain ⟨a, e1, r⟩ := R.sl i _ q
      exact ⟨_, e1, h _ F H (Same.refl F) R e1⟩
/-- any value as a container -/
theorem pm_toRef {e : Expr} {m : M D} (h : PM X W e m) : PMR X W e (mapM' m Ref.val) := by
  refine PE.weaken h ?_
  rintro σ H Q ⟨ra, HK, F, e, R, hw⟩
  unfold mapM' at hw
  refine stepG R hw fun F' e' d v H' s R' r q => ?_
  exact q v F' H' (Same.refl F') R' r
theorem tG_const {v : V} {d : D} (hr : ∀ w K ra F, Rep w K ra F v d) {σ : St} {H : Hp} {Q : VK} (h : tG TV X.w X.K W (pureM d) σ H Q) : Q v H := by
  obtain ⟨ra, HK, F, e, R, h⟩ := h
  exact h v F H (Same.refl F) R (hr _ _ _ _)
theorem pm_int {i : Int} {j pos} : PM X W (.Constant (.int i) j pos) (pureM (.int i)) := PE.weaken pe_int fun _ _ _ h => tG_const (fun _ _ _ _ => .int i) h
theorem pm_bl {b : Bool} {j pos} : PM X W (.Constant (.bool b) j pos) (pureM (.bl b)) := PE.weaken pe_bl fun _ _ _ h => tG_const (fun _ _ _ _ => .bl b) h
theorem pm_non {j pos} : PM X W (.Constant .none j pos) (pureM .non) := PE.weaken pe_non fun _ _ _ h => tG_const (fun _ _ _ _ => .non) h
theorem pm_str {x : Str} {j pos} : PM X W (.Constant (.str x) j pos) (pureM (.str x)) := PE.weaken pe_str fun _ _ _ h => tG_const (fun _ _ _ _ => .str x) h
/-- a module's constant -/
theorem pm_gint {x : Str} {i : Int} {pos : Pos} (hm : ∃ t, X.mg x = some (.int i t)) (hg : Gl X x := by rfl) (hd : (x == ("__debug__" : Str)) = false := by decide) : PM X W (.Name x pos) (pureM (.int i)) :=
  let ⟨t, hm⟩ := hm
  PE.weaken (pe_glob (v := .int i) hg hm ⟨t, rfl⟩ hd) fun _ _ _ h => tG_const (fun _ _ _ _ => .int i) h
/-- a constant tuple of the module -/
theorem pm_gtup {x : Str} {d : D} {a : Addr} {pos : Pos} (hm : X.mg x = some (.ref a)) (hr : ∀ w ra F, Rep w X.K ra F (.ref a) d) (hg : Gl X x := by rfl) (hd : (x == ("__debug__" : Str)) = false := by decide) : PM X W (.Name x pos) (pureM d) :=
  PE.weaken (pe_glob (v := .ref a) hg hm rfl hd) fun σ H Q h => by
    obtain ⟨ra, HK, F, e, R, h⟩ := h
    exact h _ F H (Same.refl F) R (hr _ _ _)

/-! ### argument lists -/
theorem pma_nil : PMA X W [] (pureM []) := PA.weaken pa_nil fun σ H Q h => by
  obtain ⟨ra, HK, F, e, R, h⟩ := h
  exact h [] F H (Same.refl F) R .nil
def consM (m : M D) (r : M (List D)) : M (List D) := bindM m fun d => bindM r fun ds => pureM (d :: ds)
theorem pma_cons {e : Expr} {es : List Expr} {m : M D} {r : M (List D)} (ha : PM X W e m) (hr : PMA X W es r) (hs : starEach (e :: es) X.env = (false, eval e X.env) :: starEach es X.env := by rfl) : PMA X W (e :: es) (consM m r) := by
  refine PA.weaken (pa_cons ha hr hs) ?_
  rintro σ H Q ⟨ra, HK, F, e, R, h⟩
  unfold consM at h
  refine stepG R h fun F1 e1 d v H1 s1 R1 r1 q1 => ?_
  refine stepG R1 q1 fun F2 e2 ds vs H2 s2 R2 r2 q2 => ?_
  exact q2 _ F2 H2 (Same.refl F2) R2 (.cons (Rep.mono s2 r1) r2)
/-- the items of a tuple or a list -/
def D.items : D → Option (List D)
  | .tup l => some l
  | .lst l => some l
  | _ => none
def starM (m : M Ref) (r : M (List D)) : M (List D) := bindM m fun x => bindM (derefM x) fun d => match d.items with
  | some xs => bindM r fun ds => pureM (xs ++ ds)
  | none => errM
/-- what a container is, when it is used -/
inductive Held (w : World) (K : PySem.W.Frag) (ra : Addr) (F H : Hp) : V → D → Prop
  | val {v : V} {d : D} : Rep w K ra F v d → Held w K ra F H v d
  | own {a : Addr} {o : OD} : RepO w K ra F H a o → F a = none → a ≠ ra → Held w K ra F H (.ref a) o.d
theorem Rel.deref {w : World} {K : PySem.W.Frag} {ra : Addr} {HK : Kp} {F H : Hp} {e : Env} {σ : St} (R : Rel w K ra HK F e σ H) {v : V} {r : Ref} (t : TR w K ra HK σ e F H v r) {α : Type} {g : D → M α} {A : α → Env → Prop} {B : Exn → Env → Prop}
    (h : (bindM (derefM r) g e).wp A B) : ∃ d, Held w K ra F H v d ∧ (g d e).wp A B ∧ derefM r e = .ok d e := by
  cases r with
  | val d => exact ⟨d, .val t, h, rfl⟩
  | slot i =>
    have t' : σ[i]? = some (some v) := t
    unfold bindM derefM at h
    simp only at h
    cases q : e.sl[i]? with
    | none =>
      rw [q] at h
      exact h.elim
    | some s =>
      rw [q] at h
      cases s with
      | no => exact h.elim
      | pin => exact h.elim
      | dsk _ _ _ => exact h.elim
      | box _ => exact h.elim
      | val d =>
        obtain ⟨v', e1, rp⟩ := R.sl i _ q
        rw [t'] at e1
        cases e1
        exact ⟨d, .val rp, h, by unfold derefM; simp only [q]⟩
      | own o =>
        obtain ⟨a, e1, rp, fa, ka, na⟩ := R.sl i _ q
        rw [t'] at e1
        cases e1
        exact ⟨o.d, .own rp fa na, h, by unfold derefM; simp only [q]⟩
theorem Held.lst {w : World} {K : PySem.W.Frag} {ra : Addr} {F H : Hp} (fh : Same F H) {v : V} {ds : List D} (h : Held w K ra F H v (.lst ds)) : ∃ a vs, v = .ref a ∧ H a = some (.lst vs) ∧ RepA w K ra F vs ds := by
  generalize e : D.lst ds = d at h
  cases h with
  | val r =>
    subst e
    cases r with
    | lst h1 h2 => exact ⟨_, _, rfl, fh _ _ h1, h2⟩
  | @own a o r _ _ =>
    cases o with
    | lst l =>
      cases e
      obtain ⟨vs, h1, h2⟩ := r
      exact ⟨_, _, rfl, h1, h2⟩
    | dct l => cases e
theorem Held.tup {w : World} {K : PySem.W.Frag} {ra : Addr} {F H : Hp} (fh : Same F H) {v : V} {ds : List D} (h : Held w K ra F H v (.tup ds)) : ∃ a vs, v = .ref a ∧ SqT K H a vs ∧ RepA w K ra F vs ds := by
  generalize e : D.tup ds = d at h
  cases h with
  | val r =>
    subst e
    cases r with
    | tup h1 h2 => exact ⟨_, _, rfl, Same.seqT fh h1, h2⟩
  | @own a o r _ _ => cases o <;> cases e
theorem Held.dct {w : World} {K : PySem.W.Frag} {ra : Addr} {F H : Hp} (fh : Same F H) {v : V} {kvs : List (D × D)} (h : Held w K ra F H v (.dct kvs)) : ∃ a es, v = .ref a ∧ DictAt w H a es ∧ RepE w K ra F es kvs := by
  generalize e : D.dct kvs = d at h
  cases h with
  | val r =>
    subst e
    cases r with
    | dct h1 h2 => exact ⟨_, _, rfl, h1.mono fh, h2⟩
  | @own a o r _ _ =>
    cases o with
    | dct l =>
      cases e
      obtain ⟨es, h1, h2⟩ := r
      exact ⟨_, _, rfl, h1, h2⟩
    | lst l => cases e
theorem pma_star {e : Expr} {es : List Expr} {p : Pos} {m : M Ref} {r : M (List D)} (ha : PMR X W e m) (hr : PMA X W es r) (hs : starEach (.Starred e p :: es) X.env = (true, eval e X.env) :: starEach es X.env := by rfl) : PMA X W (.Starred e p :: es) (starM m r) := by
  refine PA.weaken (StX.pa_star ha hr hs) ?_
  rintro σ H Q ⟨ra, HK, F, e, R, h⟩
  unfold starM at h
  refine stepG R h fun F1 e1 x v H1 s1 R1 r1 q1 => ?_
  obtain ⟨d, hd, q2, _⟩ := R1.deref r1 q1
  cases d with
  | tup xs =>
    obtain ⟨a, vs, rfl, h1, h2⟩ := hd.tup R1.fh
    refine ⟨a, vs, rfl, .inl h1, ?_⟩
    refine stepG (g := fun ds => pureM (xs ++ ds)) R1 q2 fun F2 e2 ds us H2 s2 R2 r2 q3 => ?_
    exact q3 _ F2 H2 (Same.refl F2) R2 ((RepA.mono s2 h2).append r2)
  | lst xs =>
    obtain ⟨a, vs, rfl, h1, h2⟩ := hd.lst R1.fh
    refine ⟨a, vs, rfl, .inr (.of h1), ?_⟩
    refine stepG (g := fun ds => pureM (xs ++ ds)) R1 q2 fun F2 e2 ds us H2 s2 R2 r2 q3 => ?_
    exact q3 _ F2 H2 (Same.refl F2) R2 ((RepA.mono s2 h2).append r2)
  | _ => exact q2.elim

/-! ### displays -/
def small {α : Type} (l : List α) : M Unit := fun e => if l.length ≤ 1000000 then .ok () e else .err
theorem wp_small {α β : Type} {l : List α} {g : M β} {e : Env} {A : β → Env → Prop} {B : Exn → Env → Prop} (h : (bindM (small l) (fun _ => g) e).wp A B) : l.length ≤ sizeLine ∧ (g e).wp A B := by
  unfold bindM small at h
  by_cases q : l.length ≤ 1000000
  · simp only [if_pos q] at h
    exact ⟨Nat.le_trans q (by decide), h⟩
  · simp only [if_neg q] at h
    exact h.elim
def tupM (r : M (List D)) : M D := bindM r fun ds => bindM (small ds) fun _ => pureM (.tup ds)
theorem pm_tup {es : List Expr} {k : Nat} {pos : Pos} {r : M (List D)} (h : PMA X W es r) : PM X W (.Tuple es k pos) (tupM r) := by
  refine PE.weaken (pe_tup h) ?_
  rintro σ H Q ⟨ra, HK, F, e, R, h⟩
  unfold tupM at h
  refine stepG R h fun F1 e1 ds vs H1 s1 R1 r1 q1 => ?_
  obtain ⟨hz, q2⟩ := wp_small q1
  have r1' : RepA X.w X.K ra F1 vs ds := r1
  refine ⟨by rw [r1'.length]; exact hz, fun p hp => ?_⟩
  obtain ⟨R2, s2⟩ := R1.alloc hp (.tup vs)
  exact q2 _ _ _ s2 R2 (.tup (.of upd_same) (RepA.mono s2 r1'))
/-- a new container, known to nobody -/
theorem fresh_own {w : World} {K : PySem.W.Frag} {ra : Addr} {HK : Kp} {F H : Hp} {e : Env} {σ : St} (R : Rel w K ra HK F e σ H) {p : Addr} (hp : H p = none) {o : OD} (r : RepO w K ra F (upd H p (match o with
    | .lst _ => .lst []
    | .dct _ => .lst [])) p o ∨ True) : F p = none ∧ HK.h p = none ∧ p ≠ ra ∧ ∀ {u : HO}, NotIn e σ (upd H p u) p :=
  ⟨R.fh.free hp, R.kh.free hp, fun z => R.ra_some (z ▸ hp), R.notIn_new hp _⟩
def lstM (r : M (List D)) : M OD := bindM r fun ds => bindM (small ds) fun _ => pureM (.lst ds)
theorem pmo_lst {es : List Expr} {pos : Pos} {r : M (List D)} (h : PMA X W es r) : PMO X W (.List es pos) (lstM r) := by
  refine PE.weaken (pe_lst h) ?_
  rintro σ H Q ⟨ra, HK, F, e, R, h⟩
  unfold lstM at h
  refine stepG R h fun F1 e1 ds vs H1 s1 R1 r1 q1 => ?_
  obtain ⟨hz, q2⟩ := wp_small q1
  have r1' : RepA X.w X.K ra F1 vs ds := r1
  refine ⟨by rw [r1'.length]; exact hz, fun p hp => ?_⟩
  obtain ⟨f1, f2, f3, f4⟩ := fresh_own R1 hp (o := .lst ds) (.inr trivial)
  exact q2 _ _ _ (Same.refl F1) (R1.grow hp _) ⟨p, rfl, ⟨vs, upd_same, r1'⟩, f1, f2, f3, f4⟩
/-- a new container, given away at once -/
def giveM (m : M OD) : M D := mapM' m OD.d
theorem Rel.give {w : World} {K : PySem.W.Frag} {ra : Addr} {HK : Kp} {F H : Hp} {e : Env} {σ : St} (R : Rel w K ra HK F e σ H) {v : V} {o : OD} (t : TO w K ra HK σ e F H v o) : ∃ F', Same F F' ∧ Rep w K ra F' v o.d ∧ Rel w K ra HK F' e σ H := by
  obtain ⟨a, rfl, r, fa, ka, na, nd⟩ := t
  obtain ⟨u, hu, rep⟩ : ∃ u, H a = some u ∧ ∀ F', Same F F' → F' a = some u → Rep w K ra F' (.ref a) o.d := by
    cases o with
    | lst ds =>
      obtain ⟨vs, h1, h2⟩ := r
      exact ⟨_, h1, fun F' s q => .lst q (h2.mono s)⟩
    | dct kvs =>
      obtain ⟨es, ⟨o, h1, h3⟩, h2⟩ := r
      exact ⟨_, h1, fun F' s q => .dct ⟨o, q, h3⟩ (h2.mono s)⟩
  have sf : Same F (upd F a u) := same_new fa
  refine ⟨upd F a u, sf, rep _ sf upd_same, ⟨fun b z q => ?_, R.kh, R.len, fun j s hj => ?_, R.sep, R.row.mono sf rfl, by rw [upd_ne (Ne.symm na)]; exact R.fra, R.kra, fun b hb => ⟨(R.pn b hb).1, by rw [upd_ne fun z => (R.pn b hb).1 (by rw [z]; exact ka)]; exact (R.pn b hb).2⟩⟩⟩
  · by_cases hb : b = a
    · subst hb
      rw [upd_same] at q
      cases q
      exact hu
    · rw [upd_ne hb] at q
      exact R.fh b z q
  · exact (R.sl j s hj).mono sf fun q hc eq p hf => ⟨rfl, upd_ne fun z => nd j s q hj hc eq (z ▸ hf)⟩
theorem pm_give {e : Expr} {m : M OD} (h : PMO X W e m) : PM X W e (giveM m) := by
  refine PE.weaken h ?_
  rintro σ H Q ⟨ra, HK, F, e, R, hw⟩
  unfold giveM mapM' at hw
  refine stepG R hw fun F1 e1 o v H1 s1 R1 r1 q1 => ?_
  obtain ⟨F2, s2, rp, R2⟩ := R1.give r1
  exact q1 v F2 H1 s2 R2 rp
end
end Mi

set_option Elab.async false
set_option linter.all false
set_option maxRecDepth 100000
set_option maxHeartbeats 2000000
/-! Mi, part C: equality, comparisons, arithmetic. -/
namespace Mi
open PySem PySem.Spec PyProof.Rows L2

/-! ### data are equal -/
mutual
def D.beq : D → D → Bool
  | .non, e => match e with | .non => true | _ => false
  | .bl b, e => match e with | .bl c => b == c | _ => false
  | .int i, e => match e with | .int j => decide (i = j) | _ => false
  | .str x, e => match e with | .str y => decide (x = y) | _ => false
  | .tup l, e => match e with | .tup m => D.beqs l m | _ => false
  | .lst l, e => match e with | .lst m => D.beqs l m | _ => false
  | .dct l, e => match e with | .dct m => D.beqp l m | _ => false
  | .obj l, e => match e with | .obj m => D.beqs l m | _ => false
  | .row, e => match e with | .row => true | _ => false
def D.beqs : List D → List D → Bool
  | [], m => match m with | [] => true | _ => false
  | x :: xs, m => match m with | y :: ys => D.beq x y && D.beqs xs ys | [] => false
def D.beqp : List (D × D) → List (D × D) → Bool
  | [], m => match m with | [] => true | _ => false
  | (x, x') :: xs, m => match m with | (y, y') :: ys => D.beq x y && (D.beq x' y' && D.beqp xs ys) | [] => false
end
mutual
theorem D.beq_self : ∀ d : D, D.beq d d = true
  | .non => rfl
  | .bl b => by simp [D.beq]
  | .int i => by simp [D.beq]
  | .str x => by simp [D.beq]
  | .tup l => by rw [D.beq]; exact D.beqs_self l
  | .lst l => by rw [D.beq]; exact D.beqs_self l
  | .dct l => by rw [D.beq]; exact D.beqp_self l
  | .obj l => by rw [D.beq]; exact D.beqs_self l
  | .row => rfl
theorem D.beqs_self : ∀ l : List D, D.beqs l l = true
  | [] => rfl
  | x :: xs => by rw [D.beqs, D.beq_self x, D.beqs_self xs]; rfl
theorem D.beqp_self : ∀ l : List (D × D), D.beqp l l = true
  | [] => rfl
  | (x, y) :: xs => by rw [D.beqp, D.beq_self x, D.beq_self y, D.beqp_self xs]; rfl
end
mutual
theorem D.eq_of_beq : ∀ d e : D, D.beq d e = true → d = e
  | .non, e, h => by cases e <;> simp [D.beq] at h ⊢
  | .bl b, e, h => by cases e <;> simp [D.beq] at h ⊢; exact h
  | .int i, e, h => by cases e <;> simp [D.beq] at h ⊢; exact h
  | .str x, e, h => by cases e <;> simp [D.beq] at h ⊢; exact h
  | .tup l, e, h => by cases e <;> simp only [D.beq] at h <;> first | (cases h; done) | exact congrArg _ (D.eq_of_beqs _ _ h)
  | .lst l, e, h => by cases e <;> simp only [D.beq] at h <;> first | (cases h; done) | exact congrArg _ (D.eq_of_beqs _ _ h)
  | .dct l, e, h => by cases e <;> simp only [D.beq] at h <;> first | (cases h; done) | exact congrArg _ (D.eq_of_beqp _ _ h)
  | .obj l, e, h => by cases e <;> simp only [D.beq] at h <;> first | (cases h; done) | exact congrArg _ (D.eq_of_beqs _ _ h)
  | .row, e, h => by cases e <;> simp [D.beq] at h ⊢
theorem D.eq_of_beqs : ∀ l m : List D, D.beqs l m = true → l = m
  | [], m, h => by cases m <;> simp [D.beqs] at h ⊢
  | x :: xs, m, h => by
    cases m with
    | nil => simp [D.beqs] at h
    | cons y ys =>
      simp only [D.beqs, Bool.and_eq_true] at h
      rw [D.eq_of_beq x y h.1, D.eq_of_beqs xs ys h.2]
theorem D.eq_of_beqp : ∀ l m : List (D × D), D.beqp l m = true → l = m
  | [], m, h => by cases m <;> simp [D.beqp] at h ⊢
  | (x, x') :: xs, m, h => by
    cases m with
    | nil => simp [D.beqp] at h
    | cons y ys =>
      obtain ⟨y, y'⟩ := y
      simp only [D.beqp, Bool.and_eq_true] at h
      rw [D.eq_of_beq x y h.1, D.eq_of_beq x' y' h.2.1, D.eq_of_beqp xs ys h.2.2]
end
instance : DecidableEq D := fun a b => if h : D.beq a b = true then .isTrue (D.eq_of_beq a b h) else .isFalse fun e => h (e ▸ D.beq_self a)

/-! ### Python's == -/
mutual
/-- == of data without dicts and objects (True == 1) -/
def D.eqv : D → D → Bool
  | .non, e => match e with | .non => true | _ => false
  | .bl a, e => match e with | .bl b => a == b | .int j => (if a then 1 else 0) == j | _ => false
  | .int i, e => match e with | .bl b => i == (if b then 1 else 0) | .int j => i == j | _ => false
  | .str x, e => match e with | .str y => x == y | _ => false
  | .lst l, e => match e with | .lst m => D.eqvs l m | _ => false
  | .tup l, e => match e with | .tup m => D.eqvs l m | _ => false
  | .dct _, _ => false
  | .obj _, _ => false
  | .row, _ => false
def D.eqvs : List D → List D → Bool
  | [], m => match m with | [] => true | _ => false
  | x :: xs, m => match m with | y :: ys => D.eqv x y && D.eqvs xs ys | [] => false
end
mutual
/-- data without dicts and objects, to a depth -/
def D.plain : Nat → D → Bool
  | _, .non => true
  | _, .bl _ => true
  | _, .int _ => true
  | _, .str x => PyData.canLay0 (.str x)
  | n, .lst l => match n with | 0 => false | n + 1 => D.plains n l
  | n, .tup l => match n with | 0 => false | n + 1 => D.plains n l
  | _, .dct _ => false
  | _, .obj _ => false
  | _, .row => false
def D.plains : Nat → List D → Bool
  | _, [] => true
  | n, x :: xs => D.plain n x && D.plains n xs
end
mutual
def D.pd : D → PyData
  | .non => .none
  | .bl b => .bool b
  | .int i => .int i
  | .str x => .str x
  | .lst l => .list (D.pds l)
  | .tup l => .tuple (D.pds l)
  | .dct _ => .none
  | .obj _ => .none
  | .row => .none
def D.pds : List D → List PyData
  | [] => []
  | x :: xs => D.pd x :: D.pds xs
end
mutual
theorem eqv_pd : ∀ (d e : D) (n m : Nat), d.plain n = true → e.plain m = true → PyData.eqv d.pd e.pd = d.eqv e
  | .non, e, n, m, h, h' => by cases e <;> simp_all [D.plain, D.pd, D.eqv, PyData.eqv]
  | .bl a, e, n, m, h, h' => by cases e <;> simp_all [D.plain, D.pd, D.eqv, PyData.eqv]
  | .int a, e, n, m, h, h' => by cases e <;> simp_all [D.plain, D.pd, D.eqv, PyData.eqv]
  | .str a, e, n, m, h, h' => by cases e <;> simp_all [D.plain, D.pd, D.eqv, PyData.eqv]
  | .lst l, e, n, m, h, h' => by
    cases e with
    | lst l' =>
      cases n with
      | zero => simp [D.plain] at h
      | succ n =>
        cases m with
        | zero => simp [D.plain] at h'
        | succ m =>
          simp only [D.plain] at h h'
          simp only [D.pd, D.eqv, PyData.eqv]
          exact eqv_pds l l' n m h h'
    | _ => simp_all [D.plain, D.pd, D.eqv, PyData.eqv]
  | .tup l, e, n, m, h, h' => by
    cases e with
    | tup l' =>
      cases n with
      | zero => simp [D.plain] at h
      | succ n =>
        cases m with
        | zero => simp [D.plain] at h'
        | succ m =>
          simp only [D.plain] at h h'
          simp only [D.pd, D.eqv, PyData.eqv]
          exact eqv_pds l l' n m h h'
    | _ => simp_all [D.plain, D.pd, D.eqv, PyData.eqv]
  | .dct _, _, _, _, h, _ => by simp [D.plain] at h
  | .obj _, _, _, _, h, _ => by simp [D.plain] at h
  | .row, _, _, _, h, _ => by simp [D.plain] at h
theorem eqv_pds : ∀ (l m : List D) (n k : Nat), D.plains n l = true → D.plains k m = true → PyData.eqvAll (D.pds l) (D.pds m) = D.eqvs l m
  | [], m, n, k, h, h' => by cases m <;> simp [D.pds, D.eqvs, PyData.eqvAll]
  | x :: xs, m, n, k, h, h' => by
    cases m with
    | nil => simp [D.pds, D.eqvs, PyData.eqvAll]
    | cons y ys =>
      simp only [D.plains, Bool.and_eq_true] at h h'
      simp only [D.pds, D.eqvs, PyData.eqvAll]
      rw [eqv_pd x y n k h.1 h'.1, eqv_pds xs ys n k h.2 h'.2]
end
mutual
theorem plain_lay : ∀ (d : D) (n : Nat), d.plain n = true → d.pd.canLay0 = true ∧ d.pd.depth ≤ n
  | .non, n, _ => ⟨rfl, Nat.zero_le _⟩
  | .bl _, n, _ => ⟨rfl, Nat.zero_le _⟩
  | .int _, n, _ => ⟨rfl, Nat.zero_le _⟩
  | .str x, n, h => ⟨h, Nat.zero_le _⟩
  | .lst l, n, h => by
    cases n with
    | zero => simp [D.plain] at h
    | succ n =>
      simp only [D.plain] at h
      obtain ⟨h1, h2⟩ := plains_lay l n h
      exact ⟨by simpa only [D.pd, PyData.canLay0] using h1, by simpa only [D.pd, PyData.depth] using Nat.succ_le_succ h2⟩
  | .tup l, n, h => by
    cases n with
    | zero => simp [D.plain] at h
    | succ n =>
      simp only [D.plain] at h
      obtain ⟨h1, h2⟩ := plains_lay l n h
      exact ⟨by simpa only [D.pd, PyData.canLay0] using h1, by simpa only [D.pd, PyData.depth] using Nat.succ_le_succ h2⟩
  | .dct _, _, h => by simp [D.plain] at h
  | .obj _, _, h => by simp [D.plain] at h
  | .row, _, h => by simp [D.plain] at h
theorem plains_lay : ∀ (l : List D) (n : Nat), D.plains n l = true → PyData.canLayAll0 (D.pds l) = true ∧ PyData.depthAll (D.pds l) ≤ n
  | [], n, _ => ⟨rfl, Nat.zero_le _⟩
  | x :: xs, n, h => by
    simp only [D.plains, Bool.and_eq_true] at h
    obtain ⟨a1, a2⟩ := plain_lay x n h.1
    obtain ⟨b1, b2⟩ := plains_lay xs n h.2
    refine ⟨by simp only [D.pds, PyData.canLayAll0, Bool.and_eq_true]; exact ⟨a1, b1⟩, ?_⟩
    simp only [D.pds, PyData.depthAll]
    exact Nat.max_le.mpr ⟨a2, b2⟩
end
theorem plain_shaped {d : D} (h : d.plain 60 = true) : SeqAt.shaped d.pd = true := by
  obtain ⟨h1, h2⟩ := plain_lay d 60 h
  unfold SeqAt.shaped
  rw [h1, decide_eq_true (by omega)]
  rfl
section
variable {w : World} {K : PySem.W.Frag} {ra : Addr} {F H : Hp}
mutual
theorem Rep.dp (fh : Same F H) : ∀ {v : V} {d : D} (n : Nat), Rep w K ra F v d → d.plain n = true → Dp K H v d.pd
  | _, _, n, .non, _ => .non
  | _, _, n, .bl b, _ => .bl b
  | _, _, n, .int i, _ => .int i
  | _, _, n, .str s, _ => .str s
  | _, _, n, .tup h r, p => by
    cases n with
    | zero => simp [D.plain] at p
    | succ n => exact .tup (Same.seqT fh h) (RepA.dp fh n r (by simpa only [D.plain] using p))
  | _, _, n, .lst h r, p => by
    cases n with
    | zero => simp [D.plain] at p
    | succ n => exact .lst (.of (fh _ _ h)) (RepA.dp fh n r (by simpa only [D.plain] using p))
  | _, _, n, .dct h r, p => by simp [D.plain] at p
  | _, _, n, .obj h hl r, p => by simp [D.plain] at p
  | _, _, n, .row, p => by simp [D.plain] at p
theorem RepA.dp (fh : Same F H) : ∀ {vs : List V} {ds : List D} (n : Nat), RepA w K ra F vs ds → D.plains n ds = true → DpAll K H vs (D.pds ds)
  | _, _, n, .nil, _ => .nil
  | _, _, n, .cons h r, p => by
    simp only [D.plains, Bool.and_eq_true] at p
    exact .cons (Rep.dp fh n h p.1) (RepA.dp fh n r p.2)
end
theorem Held.dp (fh : Same F H) {v : V} {d : D} (h : Held w K ra F H v d) (p : d.plain 60 = true) : Dp K H v d.pd := by
  cases h with
  | val r => exact r.dp fh 60 p
  | @own a o r _ _ =>
    cases o with
    | lst ds =>
      obtain ⟨vs, h1, h2⟩ := r
      exact .lst (.of h1) (h2.dp fh 59 p)
    | dct kvs => simp [OD.d, D.plain] at p
end

/-! ### operators of two values, read as containers -/
def op2M (ma mb : M Ref) (f : D → D → Option D) : M D := bindM ma fun x => bindM mb fun y => bindM (derefM x) fun d => bindM (derefM y) fun d' => liftO (f d d')
/-- what an operator's rule asks is told by f -/
def OpS (w : World) (K : PySem.W.Frag) (r : R2) (f : D → D → Option D) : Prop :=
  ∀ (ra : Addr) (HK : Kp) (F : Hp) (e : Env) (σ : St) (H : Hp) (x y : V) (d d' z : D) (Q : VK), Rel w K ra HK F e σ H → Held w K ra F H x d → Held w K ra F H y d' → f d d' = some z → okG TV w K ra HK F σ Q z e → r x y H Q
section
variable {X : Cx} {W : WX} {a b : Expr} {ma mb : M Ref} {f : D → D → Option D} {r : R2} {pos : Pos}
theorem op_read (hs : OpS X.w X.K r f) {σ : St} {H : Hp} {Q : VK} (h : tG TV X.w X.K W (op2M ma mb f) σ H Q) : tOp r (tG TR X.w X.K W ma) (tG TR X.w X.K W mb) σ H Q := by
  obtain ⟨ra, HK, F, e, R, h⟩ := h
  unfold op2M at h
  refine stepG R h fun F1 e1 x v H1 s1 R1 r1 q1 => ?_
  refine stepG R1 q1 fun F2 e2 y u H2 s2 R2 r2 q2 => ?_
  have r1' : TR X.w X.K ra HK σ e2 F2 H2 v x := by
    cases x with
    | val d => exact Rep.mono s2 r1
    | slot i => exact r1
  obtain ⟨d, hd, q3, _⟩ := R2.deref r1' q2
  obtain ⟨d', hd', q4, _⟩ := R2.deref r2 q3
  unfold liftO at q4
  cases ez : f d d' with
  | none =>
    rw [ez] at q4
    exact q4.elim
  | some z =>
    rw [ez] at q4
    exact hs ra HK F2 e2 σ H2 v u d d' z Q R2 hd hd' ez q4
theorem pm_bin {op : Operator} (ho : OpR X (binaryOp op) r) (hs : OpS X.w X.K r f) (ha : PMR X W a ma) (hb : PMR X W b mb) : PM X W (.BinOp a op b pos) (op2M ma mb f) := PE.weaken (pe_op ho ha hb) fun _ _ _ h => op_read hs h
theorem pm_cmp {op : CmpOp} (ho : OpR X (compareOp op) r) (hs : OpS X.w X.K r f) (ha : PMR X W a ma) (hb : PMR X W b mb) (hm : behindInMarks op b = false) : PM X W (.Compare a [op] [b] pos) (op2M ma mb f) := PE.weaken (pe_cmpR ho ha hb hm) fun _ _ _ h => op_read hs h
/-- a value that is True or False, as a test -/
def testM (m : M D) : M Bool := bindM m fun d => match d with
  | .bl b => pureM b
  | _ => errM
theorem test_read {m : M D} {σ : St} {H : Hp} {Q : Bool → Hp → Prop} (h : tG TB X.w X.K W (testM m) σ H Q) : tG TV X.w X.K W m σ H fun x H' => ∃ k, x = .bl k ∧ Q k H' := by
  obtain ⟨ra, HK, F, e, R, h⟩ := h
  unfold testM at h
  refine stepG R h fun F1 e1 d v H1 s1 R1 r1 q1 => ?_
  cases d with
  | bl b =>
    cases r1
    exact ⟨b, rfl, q1 b F1 H1 (Same.refl F1) R1 rfl⟩
  | _ => exact q1.elim
theorem pmt_cmp {op : CmpOp} (ho : OpR X (compareOp op) r) (hs : OpS X.w X.K r f) (ha : PMR X W a ma) (hb : PMR X W b mb) (hm : behindInMarks op b = false) : PMT X W (.Compare a [op] [b] pos) (testM (op2M ma mb f)) := by
  refine PT.weaken (pt_cmpR ho ha hb hm) fun σ H Q h => ?_
  have h2 := test_read h
  obtain ⟨ra, HK, F, e, R, h3⟩ := h2
  exact op_read hs ⟨ra, HK, F, e, R, h3⟩
theorem pmt_val {e : Expr} {m : M D} (h : PM X W e m) (he : ∀ whole, isTrue e X.env whole = (do let v ← whole; standAt e.pos; holding [v] (truthy v)) := by intro _; rfl) : PMT X W e (testM m) :=
  PT.weaken (pt_val h he) fun _ _ _ h => test_read h

/-! ### == and != -/
def eqF (d e : D) : Option D := if d.plain 60 && e.plain 60 then some (.bl (d.eqv e)) else none
def neF (d e : D) : Option D := if d.plain 60 && e.plain 60 then some (.bl (!d.eqv e)) else none
theorem ops_eq : OpS X.w X.K (rEqD X.K) eqF := by
  intro ra HK F e σ H x y d d' z Q R hx hy hz q
  unfold eqF at hz
  by_cases c : (d.plain 60 && d'.plain 60) = true
  · rw [if_pos c] at hz
    cases hz
    obtain ⟨c1, c2⟩ := Bool.and_eq_true_iff.mp c
    refine ⟨d.pd, d'.pd, hx.dp R.fh c1, hy.dp R.fh c2, plain_shaped c1, plain_shaped c2, ?_⟩
    rw [eqv_pd d d' 60 60 c1 c2]
    exact q _ F H (Same.refl F) R (.bl _)
  · rw [if_neg c] at hz
    cases hz
theorem ops_ne : OpS X.w X.K (rNeD X.K) neF := by
  intro ra HK F e σ H x y d d' z Q R hx hy hz q
  unfold neF at hz
  by_cases c : (d.plain 60 && d'.plain 60) = true
  · rw [if_pos c] at hz
    cases hz
    obtain ⟨c1, c2⟩ := Bool.and_eq_true_iff.mp c
    refine ⟨d.pd, d'.pd, hx.dp R.fh c1, hy.dp R.fh c2, plain_shaped c1, plain_shaped c2, ?_⟩
    rw [eqv_pd d d' 60 60 c1 c2]
    exact q _ F H (Same.refl F) R (.bl _)
  · rw [if_neg c] at hz
    cases hz

/-! ### whole numbers -/
/-- an operator on two numbers, where c holds -/
def intF (c : Int → Int → Bool) (g : Int → Int → Int) (d e : D) : Option D := match d, e with
  | .int i, .int j => if c i j then some (.int (g i j)) else none
  | _, _ => none
def cmpF (g : Int → Int → Bool) (d e : D) : Option D := match d, e with
  | .int i, .int j => some (.bl (g i j))
  | _, _ => none
theorem Held.int_ {w : World} {K : PySem.W.Frag} {ra : Addr} {F H : Hp} {v : V} {i : Int} (h : Held w K ra F H v (.int i)) : v = .int i := by
  generalize e : D.int i = d at h
  cases h with
  | val r =>
    subst e
    cases r
    rfl
  | @own a o _ _ _ => cases o <;> cases e
theorem Held.str_ {w : World} {K : PySem.W.Frag} {ra : Addr} {F H : Hp} {v : V} {i : Str} (h : Held w K ra F H v (.str i)) : v = .str i := by
  generalize e : D.str i = d at h
  cases h with
  | val r =>
    subst e
    cases r
    rfl
  | @own a o _ _ _ => cases o <;> cases e
theorem Held.bl_ {w : World} {K : PySem.W.Frag} {ra : Addr} {F H : Hp} {v : V} {i : Bool} (h : Held w K ra F H v (.bl i)) : v = .bl i := by
  generalize e : D.bl i = d at h
  cases h with
  | val r =>
    subst e
    cases r
    rfl
  | @own a o _ _ _ => cases o <;> cases e
theorem ops_int {C : Int → Int → Prop} {c : Int → Int → Bool} {g : Int → Int → Int} (hc : ∀ i j, c i j = true → C i j) : OpS X.w X.K (rI C fun i j => .int (g i j)) (intF c g) := by
  intro ra HK F e σ H x y d d' z Q R hx hy hz q
  cases d with
  | int i =>
    cases d' with
    | int j =>
      simp only [intF] at hz
      by_cases k : c i j = true
      · rw [if_pos k] at hz
        cases hz
        exact ⟨i, j, hx.int_, hy.int_, hc i j k, q _ F H (Same.refl F) R (.int _)⟩
      · rw [if_neg k] at hz
        cases hz
    | _ => cases hz
  | _ => cases hz
theorem ops_int0 {g : Int → Int → Int} : OpS X.w X.K (rI0 fun i j => .int (g i j)) (intF (fun _ _ => true) g) := by
  intro ra HK F e σ H x y d d' z Q R hx hy hz q
  cases d with
  | int i =>
    cases d' with
    | int j =>
      cases hz
      exact ⟨i, j, hx.int_, hy.int_, q _ F H (Same.refl F) R (.int _)⟩
    | _ => cases hz
  | _ => cases hz
theorem ops_cmp {g : Int → Int → Bool} : OpS X.w X.K (rI0 fun i j => .bl (g i j)) (cmpF g) := by
  intro ra HK F e σ H x y d d' z Q R hx hy hz q
  cases d with
  | int i =>
    cases d' with
    | int j =>
      cases hz
      exact ⟨i, j, hx.int_, hy.int_, q _ F H (Same.refl F) R (.bl _)⟩
    | _ => cases hz
  | _ => cases hz
theorem OpS.or {r r' : R2} {f f' g : D → D → Option D} (h : OpS X.w X.K r f) (h' : OpS X.w X.K r' f') (hg : ∀ d e z, g d e = some z → f d e = some z ∨ f' d e = some z) : OpS X.w X.K (fun x y H Q => r x y H Q ∨ r' x y H Q) g := by
  intro ra HK F e σ H x y d d' z Q R hx hy hz q
  rcases hg d d' z hz with k | k
  · exact .inl (h ra HK F e σ H x y d d' z Q R hx hy k q)
  · exact .inr (h' ra HK F e σ H x y d d' z Q R hx hy k q)
end
end Mi

set_option Elab.async false
set_option linter.all false
set_option maxRecDepth 100000
set_option maxHeartbeats 4000000
/-! Mi, part D: tuple * int (all cases), the operators. -/
namespace L2
open PySem PySem.Spec PyProof.Rows
theorem tuple_mulS (l : Addr) (items : Array Value) (n : Nat) (dd : Option Addr) (sl : Array (Option Value)) (x : Int) (u : Tok) (c0 : (decide (x < -(2 ^ 63)) || decide (x ≥ 2 ^ 63)) = false) (c1 : (items.isEmpty || x == 1) = true) :
    Meets (Builtin.«tuple.__mul__» ⟨[.ref l, .int x u], []⟩) (fun _ R s => s.heap.get? l = some { cls := .type "tuple", dict := dd, data := .seq items n, slots := sl } ∧
      R (.ok (.ret (Value.ref l))) s) :=
  .of_wp fun prog w A R s h => by
    obtain ⟨hp, g, d, tk, os⟩ := s
    obtain ⟨hl, h⟩ := h
    have f1 := AutoSeq1.idx_int
    wp_walk using wpAny_loadPart' hl
    repeat (first
      | (refine wpAny_ite_false (decide_eq_false (by rw [c0]; exact Bool.false_ne_true)) ?_; wp_walk using wpAny_loadPart' hl)
      | (refine wpAny_ite_true (decide_eq_true c1) ?_; wp_walk using wpAny_loadPart' hl)
      | (refine wpAny_ite_true (decide_eq_true (by rfl)) ?_; wp_walk using wpAny_loadPart' hl))
    exact ⟨_, rfl, h⟩
theorem tuple_mul0 (l : Addr) (items : Array Value) (n : Nat) (dd : Option Addr) (sl : Array (Option Value)) (x : Int) (u : Tok) (c0 : (decide (x < -(2 ^ 63)) || decide (x ≥ 2 ^ 63)) = false) (c1 : (items.isEmpty || x == 1) = false) (c2 : (decide (x ≤ 0) || items.isEmpty) = true) :
    Meets (Builtin.«tuple.__mul__» ⟨[.ref l, .int x u], []⟩) (fun _ R s => s.heap.get? l = some { cls := .type "tuple", dict := dd, data := .seq items n, slots := sl } ∧
      R (.ok (.ret (Value.ref s.heap.objs.size))) { s with heap := s.heap.push { cls := Value.type "tuple", data := Data.seq #[] }, toks := s.toks }) :=
  .of_wp fun prog w A R s h => by
    obtain ⟨hp, g, d, tk, os⟩ := s
    obtain ⟨hl, h⟩ := h
    have f1 := AutoSeq1.idx_int
    wp_walk using wpAny_loadPart' hl
    repeat (first
      | (refine wpAny_ite_false (decide_eq_false (by rw [c0]; exact Bool.false_ne_true)) ?_; wp_walk using wpAny_loadPart' hl)
      | (refine wpAny_ite_false (decide_eq_false (by rw [c1]; exact Bool.false_ne_true)) ?_; wp_walk using wpAny_loadPart' hl)
      | (refine wpAny_ite_true (decide_eq_true c2) ?_; wp_walk using wpAny_loadPart' hl)
      | (refine wpAny_ite_false (decide_eq_false (Nat.not_lt.mpr (Nat.zero_le _))) ?_; wp_walk using wpAny_loadPart' hl))
    exact ⟨_, rfl, h⟩
/-- t * k, any t, any k in bounds -/
def rRepA (K : PySem.W.Frag) : R2 := fun x y H Q => ∃ l k xs, x = .ref l ∧ y = .int k ∧ SqT K H l xs ∧ -(2 ^ 63) ≤ k ∧ k ≤ 1000 ∧ xs.length ≤ 1000 ∧
  (xs = [] ∨ k = 1 → Q (.ref l) H) ∧ (xs ≠ [] ∧ k ≠ 1 → ∀ p, H p = none → Q (.ref p) (upd H p (.tup (List.replicate k.toNat xs).flatten)))
section
variable {X : Cx}
theorem op_repA : OpR X (binaryOp .Mult) (rRepA X.K) := by
  intro pins s σ H x y v u Q I rx ry h
  obtain ⟨l, k, xs, rfl, rfl, hT, h1, h2, hz, q1, q2⟩ := h
  by_cases c : xs = [] ∨ k = 1
  · cases rx
    obtain ⟨t, rfl⟩ := ry
    obtain ⟨its, r, ⟨⟨cls, dd, data, sl⟩, ho, hc, n, hd⟩, hs⟩ := I.tuple hT
    simp only at hc hd
    subst hc hd
    have c0 : (decide (k < -(2 ^ 63)) || decide (k ≥ 2 ^ 63)) = false := by
      rw [decide_eq_false (by omega), decide_eq_false (by omega)] <;> rfl
    have c1 : (its.toArray.isEmpty || k == 1) = true := by
      rcases c with c | c
      · subst c
        cases r
        rfl
      · subst c
        simp
    refine wpAny_binaryOp_repeat_ref (T := "tuple") (U := "int") (by decide) ⟨_, ho, rfl⟩ (fun s' => typeIs_int s' k t) noFill_tuple_mul F.fills_int_mul F.slot_int_rmul repeat_tuple F.slot_int_index.lookup
      (call_meets F.slot_int_rmul (typeIs_int s k t) F.entry_int_rmul (F.args_int_rmul_2 _ _) (int_rmul_tuple k t l its.toArray n dd sl)
        ⟨ho, rfl, ⟨_, ho, rfl⟩, call_meets F.slot_tuple_mul ⟨_, ho, rfl⟩ F.entry_tuple_mul (F.args_tuple_mul_2 _ _) (tuple_mulS l its.toArray n dd sl k t c0 c1) ⟨ho, ?_⟩⟩)
    exact ⟨.ref l, H, I, rfl, q1 c⟩
  · have c' : xs ≠ [] ∧ k ≠ 1 := ⟨fun z => c (.inl z), fun z => c (.inr z)⟩
    by_cases k0 : 2 ≤ k
    · exact op_repT pins s σ H _ _ v u Q I rx ry ⟨l, k, xs, rfl, rfl, hT, c'.1, k0, h2, hz, q2 c'⟩
    · cases rx
      obtain ⟨t, rfl⟩ := ry
      obtain ⟨its, r, ⟨⟨cls, dd, data, sl⟩, ho, hc, n, hd⟩, hs⟩ := I.tuple hT
      simp only at hc hd
      subst hc hd
      have c0 : (decide (k < -(2 ^ 63)) || decide (k ≥ 2 ^ 63)) = false := by
        rw [decide_eq_false (by omega), decide_eq_false (by omega)] <;> rfl
      have hk : k ≤ 0 := by
        have := c'.2
        omega
      have hi : its.toArray.isEmpty = false := by
        cases r with
        | nil => exact absurd rfl c'.1
        | cons _ _ => rfl
      have c1 : (its.toArray.isEmpty || k == 1) = false := by
        rw [hi, Bool.false_or]
        exact beq_eq_false_iff_ne.mpr (by omega)
      have c2 : (decide (k ≤ 0) || its.toArray.isEmpty) = true := by
        rw [decide_eq_true hk]
        rfl
      refine wpAny_binaryOp_repeat_ref (T := "tuple") (U := "int") (by decide) ⟨_, ho, rfl⟩ (fun s' => typeIs_int s' k t) noFill_tuple_mul F.fills_int_mul F.slot_int_rmul repeat_tuple F.slot_int_index.lookup
        (call_meets F.slot_int_rmul (typeIs_int s k t) F.entry_int_rmul (F.args_int_rmul_2 _ _) (int_rmul_tuple k t l its.toArray n dd sl)
          ⟨ho, rfl, ⟨_, ho, rfl⟩, call_meets F.slot_tuple_mul ⟨_, ho, rfl⟩ F.entry_tuple_mul (F.args_tuple_mul_2 _ _) (tuple_mul0 l its.toArray n dd sl k t c0 c1 c2) ⟨ho, ?_⟩⟩)
      have e0 : (List.replicate k.toNat xs).flatten = [] := by
        have : k.toNat = 0 := by omega
        rw [this]
        rfl
      refine ⟨.ref s.heap.objs.size, _, I.laid (t' := s.toks) (o := .tup (List.replicate k.toNat xs).flatten) (fun b ob q => Heap.get?_push_of_some _ q) (Nat.le_refl _) ?_, rfl, q2 c' _ (I.hok.fresh (Nat.le_refl _))⟩
      rw [e0]
      exact ⟨by decide, [], .nil, IsTup.new _ _⟩
end
end L2
namespace Mi
open PySem PySem.Spec PyProof.Rows L2
section
variable {w : World} {K : PySem.W.Frag} {ra : Addr} {F H : Hp}
theorem Held.rep_tup {v : V} {ds : List D} (h : Held w K ra F H v (.tup ds)) : Rep w K ra F v (.tup ds) := by
  generalize e : D.tup ds = d at h ⊢
  cases h with
  | val r => exact r
  | @own a o _ _ _ => cases o <;> cases e
theorem RepA.rep {vs : List V} {ds : List D} (h : RepA w K ra F vs ds) : ∀ n : Nat, RepA w K ra F (List.replicate n vs).flatten (List.replicate n ds).flatten
  | 0 => .nil
  | n + 1 => by
    rw [List.replicate_succ, List.replicate_succ, List.flatten_cons, List.flatten_cons]
    exact h.append (RepA.rep h n)
end
/-! ### +, -, *, //, %, ** -/
def addF (d e : D) : Option D := match d, e with
  | .int i, .int j => some (.int (i + j))
  | .str x, .str y => if x.length + y.length ≤ 1000000 then some (.str (x ++ y)) else none
  | .tup xs, .tup ys => if xs.length + ys.length ≤ 1000000 then some (.tup (xs ++ ys)) else none
  | .lst xs, .lst ys => if xs.length + ys.length ≤ 1000000 then some (.lst (xs ++ ys)) else none
  | _, _ => none
def addStr (d e : D) : Option D := match d, e with
  | .str x, .str y => if x.length + y.length ≤ 1000000 then some (.str (x ++ y)) else none
  | _, _ => none
def addTup (d e : D) : Option D := match d, e with
  | .tup xs, .tup ys => if xs.length + ys.length ≤ 1000000 then some (.tup (xs ++ ys)) else none
  | _, _ => none
def addLst (d e : D) : Option D := match d, e with
  | .lst xs, .lst ys => if xs.length + ys.length ≤ 1000000 then some (.lst (xs ++ ys)) else none
  | _, _ => none
theorem le_line {n : Nat} (h : n ≤ 1000000) : n ≤ sizeLine := Nat.le_trans h (by decide)
section
variable {X : Cx} {W : WX}
theorem ops_addStr : OpS X.w X.K (fun x y H Q => ∃ i j, x = .str i ∧ y = .str j ∧ i.length + j.length ≤ sizeLine ∧ Q (.str (i ++ j)) H) addStr := by
  intro ra HK F e σ H x y d d' z Q R hx hy hz q
  cases d with
  | str i =>
    cases d' with
    | str j =>
      simp only [addStr] at hz
      by_cases k : i.length + j.length ≤ 1000000
      · rw [if_pos k] at hz
        cases hz
        exact ⟨i, j, hx.str_, hy.str_, le_line k, q _ F H (Same.refl F) R (.str _)⟩
      · rw [if_neg k] at hz
        cases hz
    | _ => cases hz
  | _ => cases hz
theorem ops_addTup : OpS X.w X.K (rCatA X.K) addTup := by
  intro ra HK F e σ H x y d d' z Q R hx hy hz q
  cases d with
  | tup i =>
    cases d' with
    | tup j =>
      simp only [addTup] at hz
      by_cases k : i.length + j.length ≤ 1000000
      · rw [if_pos k] at hz
        cases hz
        obtain ⟨a, vs, rfl, h1, h2⟩ := hx.tup R.fh
        obtain ⟨b, us, rfl, h3, h4⟩ := hy.tup R.fh
        refine ⟨a, b, vs, us, rfl, rfl, h1, h3, by rw [h2.length, h4.length]; exact le_line k, fun z => ?_, fun _ z => ?_, fun _ _ p hp => ?_⟩
        · subst z
          cases h2
          exact q _ F H (Same.refl F) R hy.rep_tup
        · subst z
          cases h4
          rw [List.append_nil] at q
          exact q _ F H (Same.refl F) R hx.rep_tup
        · obtain ⟨R2, s2⟩ := R.alloc hp (.tup (vs ++ us))
          exact q _ _ _ s2 R2 (.tup (.of upd_same) (RepA.mono s2 (h2.append h4)))
      · rw [if_neg k] at hz
        cases hz
    | _ => cases hz
  | _ => cases hz
theorem ops_addLst : OpS X.w X.K rCat addLst := by
  intro ra HK F e σ H x y d d' z Q R hx hy hz q
  cases d with
  | lst i =>
    cases d' with
    | lst j =>
      simp only [addLst] at hz
      by_cases k : i.length + j.length ≤ 1000000
      · rw [if_pos k] at hz
        cases hz
        obtain ⟨a, vs, rfl, h1, h2⟩ := hx.lst R.fh
        obtain ⟨b, us, rfl, h3, h4⟩ := hy.lst R.fh
        refine ⟨a, b, vs, us, rfl, rfl, h1, h3, by rw [h2.length, h4.length]; exact le_line k, fun p hp => ?_⟩
        obtain ⟨R2, s2⟩ := R.alloc hp (.lst (vs ++ us))
        exact q _ _ _ s2 R2 (.lst upd_same (RepA.mono s2 (h2.append h4)))
      · rw [if_neg k] at hz
        cases hz
    | _ => cases hz
  | _ => cases hz
theorem ops_add : OpS X.w X.K (fun x y H Q => rI0 (fun i j => V.int (i + j)) x y H Q ∨ (∃ i j, x = .str i ∧ y = .str j ∧ i.length + j.length ≤ sizeLine ∧ Q (.str (i ++ j)) H) ∨ rCatA X.K x y H Q ∨ rCat x y H Q) addF := by
  intro ra HK F e σ H x y d d' z Q R hx hy hz q
  cases d with
  | int i =>
    cases d' with
    | int j => exact .inl (ops_int0 (X := X) (g := (· + ·)) ra HK F e σ H x y (.int i) (.int j) z Q R hx hy hz q)
    | _ => cases hz
  | str i =>
    cases d' with
    | str j => exact .inr (.inl (ops_addStr ra HK F e σ H x y (.str i) (.str j) z Q R hx hy hz q))
    | _ => cases hz
  | tup i =>
    cases d' with
    | tup j => exact .inr (.inr (.inl (ops_addTup ra HK F e σ H x y (.tup i) (.tup j) z Q R hx hy hz q)))
    | _ => cases hz
  | lst i =>
    cases d' with
    | lst j => exact .inr (.inr (.inr (ops_addLst (X := X) ra HK F e σ H x y (.lst i) (.lst j) z Q R hx hy hz q)))
    | _ => cases hz
  | _ => cases hz
theorem op_add4 : OpR X (binaryOp .Add) (fun x y H Q => rI0 (fun i j => V.int (i + j)) x y H Q ∨ (∃ i j, x = .str i ∧ y = .str j ∧ i.length + j.length ≤ sizeLine ∧ Q (.str (i ++ j)) H) ∨ rCatA X.K x y H Q ∨ rCat x y H Q) :=
  OpR.or op_add (OpR.or op_add_str (OpR.or op_catA op_cat))
variable {a b : Expr} {ma mb : M Ref} {pos : Pos}
theorem pm_add (ha : PMR X W a ma) (hb : PMR X W b mb) : PM X W (.BinOp a .Add b pos) (op2M ma mb addF) := pm_bin op_add4 ops_add ha hb
def subF : D → D → Option D := intF (fun _ _ => true) (· - ·)
theorem pm_sub (ha : PMR X W a ma) (hb : PMR X W b mb) : PM X W (.BinOp a .Sub b pos) (op2M ma mb subF) := pm_bin op_sub (ops_int0 (g := (· - ·))) ha hb
def mulC (i j : Int) : Bool := (decide (-(2 ^ 64) < i) && decide (i < 2 ^ 64)) || ((decide (-(2 ^ 64) < j) && decide (j < 2 ^ 64)) || decide (i.natAbs.log2 + j.natAbs.log2 < 1000000))
theorem mulC_ok {i j : Int} (h : mulC i j = true) : IntMulOk i j := by
  unfold mulC at h
  simp only [Bool.or_eq_true, Bool.and_eq_true, decide_eq_true_eq] at h
  rcases h with h | h | h
  · exact CMul.ok (.inl h)
  · exact CMul.ok (.inr h)
  · exact CMulW.ok h
theorem op_mulA : OpR X (binaryOp .Mult) (rI IntMulOk fun i j => .int (i * j)) := opI fun _ _ _ _ _ _ _ hc q => mul_int q hc
/-- * -/
def mulF (d e : D) : Option D := match d, e with
  | .int i, .int j => if mulC i j then some (.int (i * j)) else none
  | .tup xs, .int k => if -(2 ^ 63) ≤ k ∧ k ≤ 1000 ∧ xs.length ≤ 1000 then some (.tup (List.replicate k.toNat xs).flatten) else none
  | .lst xs, .int k => if -(2 ^ 63) ≤ k ∧ k ≤ 1000 ∧ xs.length ≤ 1000 then some (.lst (List.replicate k.toNat xs).flatten) else none
  | .str x, .int k => if 0 ≤ k ∧ k ≤ 1000 ∧ x.length ≤ 1000 ∧ x.length ≠ 0 then some (.str ⟨(List.replicate k.toNat x.cps).foldl (· ++ ·) #[]⟩) else none
  | _, _ => none
theorem op_repS : OpR X (binaryOp .Mult) (fun x y H Q => ∃ z k, x = .str z ∧ y = .int k ∧ 0 ≤ k ∧ k ≤ 1000 ∧ z.length ≤ 1000 ∧ z.length ≠ 0 ∧ Q (.str ⟨(List.replicate k.toNat z.cps).foldl (· ++ ·) #[]⟩) H) := by
  intro pins s σ H x y v u Q I rx ry h
  obtain ⟨z, k, rfl, rfl, h1, h2, h3, h4, q⟩ := h
  obtain ⟨t, rfl⟩ := rx
  obtain ⟨t', rfl⟩ := ry
  refine PySem.P.mul_str (by rw [decide_eq_false (by omega), decide_eq_false (by omega)] <;> rfl) (fun a _ => ?_) (fun a _ => ?_) ?_
  · have hk : 1 ≤ k := by omega
    have : (z.length : Int) ≤ 1000 := by omega
    have e : (1000 : Int) ≤ (2 ^ 63 - 1) / k := by
      rw [Int.le_ediv_iff_mul_le (by omega)]
      omega
    omega
  · unfold Builtin.Str.tooLong
    have : z.length * k.toNat ≤ 1000 * 1000 := Nat.mul_le_mul h3 (by omega)
    first
      | exact decide_eq_false (by rw [sizeLine_eq]; omega)
      | (simp [sizeLine_eq]; omega)
  · by_cases k0 : k < 1
    · rw [if_pos k0]
      have e0 : k.toNat = 0 := by omega
      rw [e0] at q
      exact ⟨by decide, ⟨.str Str.empty, H, I.tok _, ⟨_, rfl⟩, q⟩⟩
    · rw [if_neg k0]
      by_cases k1 : k = 1
      · subst k1
        rw [if_pos (by simp)]
        have e1 : (⟨(List.replicate (1 : Int).toNat z.cps).foldl (· ++ ·) #[]⟩ : Str) = z := by simp
        rw [e1] at q
        exact ⟨.str z, H, I.tok _, ⟨_, rfl⟩, q⟩
      · rw [if_neg (by simp [k1, h4])]
        refine ⟨?_, ⟨.str ⟨(List.replicate k.toNat z.cps).foldl (· ++ ·) #[]⟩, H, I.tok _, ⟨_, rfl⟩, q⟩⟩
        have e2 : z.cps = z.cps.toList.toArray := by simp
        have l2 : z.cps.toList.length = z.length := by simp [Str.length]
        have fl : ((List.replicate k.toNat z.cps).foldl (· ++ ·) #[]).size = k.toNat * z.length := by
          have g : ∀ (m : Nat) (acc : Array Nat), ((List.replicate m z.cps).foldl (· ++ ·) acc).size = acc.size + m * z.length := by
            intro m
            induction m with
            | zero => intro acc; simp
            | succ m ih =>
              intro acc
              rw [List.replicate_succ, List.foldl_cons, ih, Array.size_append, Nat.succ_mul]
              have : z.cps.size = z.length := rfl
              omega
          rw [g]
          simp
        have : k.toNat * z.length ≤ 1000 * 1000 := Nat.mul_le_mul (by omega) h3
        first
          | (show ((List.replicate k.toNat z.cps).foldl (· ++ ·) #[]).size ≤ sizeLine; rw [fl]; exact le_line (by omega))
          | (show ¬ _; rw [fl]; omega)
theorem ops_mulT : OpS X.w X.K (rRepA X.K) (fun d e => match d, e with
  | .tup xs, .int k => if -(2 ^ 63) ≤ k ∧ k ≤ 1000 ∧ xs.length ≤ 1000 then some (.tup (List.replicate k.toNat xs).flatten) else none
  | _, _ => none) := by
  intro ra HK F e σ H x y d d' z Q R hx hy hz q
  cases d with
  | tup xs =>
    cases d' with
    | int k =>
      simp only at hz
      by_cases c : -(2 ^ 63) ≤ k ∧ k ≤ 1000 ∧ xs.length ≤ 1000
      · rw [if_pos c] at hz
        cases hz
        obtain ⟨a, vs, rfl, h1, h2⟩ := hx.tup R.fh
        refine ⟨a, k, vs, rfl, hy.int_, h1, c.1, c.2.1, by rw [h2.length]; exact c.2.2, fun z => ?_, fun _ p hp => ?_⟩
        · rcases z with z | z
          · subst z
            cases h2
            have : (List.replicate k.toNat ([] : List D)).flatten = [] := by simp
            rw [this] at q
            exact q _ F H (Same.refl F) R hx.rep_tup
          · subst z
            have : (List.replicate (1 : Int).toNat xs).flatten = xs := by simp
            rw [this] at q
            exact q _ F H (Same.refl F) R hx.rep_tup
        · obtain ⟨R2, s2⟩ := R.alloc hp (.tup (List.replicate k.toNat vs).flatten)
          exact q _ _ _ s2 R2 (.tup (.of upd_same) (RepA.mono s2 (h2.rep _)))
      · rw [if_neg c] at hz
        cases hz
    | _ => cases hz
  | _ => cases hz
theorem ops_mul : OpS X.w X.K (fun x y H Q => rI IntMulOk (fun i j => V.int (i * j)) x y H Q ∨ rRepA X.K x y H Q ∨ rRep x y H Q ∨ (∃ z k, x = .str z ∧ y = .int k ∧ 0 ≤ k ∧ k ≤ 1000 ∧ z.length ≤ 1000 ∧ z.length ≠ 0 ∧ Q (.str ⟨(List.replicate k.toNat z.cps).foldl (· ++ ·) #[]⟩) H)) mulF := by
  intro ra HK F e σ H x y d d' z Q R hx hy hz q
  cases d with
  | int i =>
    cases d' with
    | int j => exact .inl (ops_int (X := X) (C := IntMulOk) (c := mulC) (g := (· * ·)) (fun i j h => mulC_ok h) ra HK F e σ H x y (.int i) (.int j) z Q R hx hy hz q)
    | _ => cases hz
  | tup i =>
    cases d' with
    | int j => exact .inr (.inl (ops_mulT ra HK F e σ H x y (.tup i) (.int j) z Q R hx hy hz q))
    | _ => cases hz
  | lst i =>
    cases d' with
    | int k =>
      simp only [mulF] at hz
      by_cases c : -(2 ^ 63) ≤ k ∧ k ≤ 1000 ∧ i.length ≤ 1000
      · rw [if_pos c] at hz
        cases hz
        obtain ⟨a, vs, rfl, h1, h2⟩ := hx.lst R.fh
        refine .inr (.inr (.inl ⟨a, k, vs, rfl, hy.int_, h1, c.1, by omega, ?_, fun p hp => ?_⟩))
        · rw [h2.length]
          have : i.length * k.toNat ≤ 1000 * 1000 := Nat.mul_le_mul c.2.2 (by omega)
          exact le_line (by omega)
        · obtain ⟨R2, s2⟩ := R.alloc hp (.lst (List.replicate k.toNat vs).flatten)
          exact q _ _ _ s2 R2 (.lst upd_same (RepA.mono s2 (h2.rep _)))
      · rw [if_neg c] at hz
        cases hz
    | _ => cases hz
  | str x =>
    cases d' with
    | int k =>
      simp only [mulF] at hz
      by_cases c : 0 ≤ k ∧ k ≤ 1000 ∧ x.length ≤ 1000 ∧ x.length ≠ 0
      · rw [if_pos c] at hz
        cases hz
        exact .inr (.inr (.inr ⟨x, k, hx.str_, hy.int_, c.1, c.2.1, c.2.2.1, c.2.2.2, q _ F H (Same.refl F) R (.str _)⟩))
      · rw [if_neg c] at hz
        cases hz
    | _ => cases hz
  | _ => cases hz
theorem op_mul4 : OpR X (binaryOp .Mult) (fun x y H Q => rI IntMulOk (fun i j => V.int (i * j)) x y H Q ∨ rRepA X.K x y H Q ∨ rRep x y H Q ∨ (∃ z k, x = .str z ∧ y = .int k ∧ 0 ≤ k ∧ k ≤ 1000 ∧ z.length ≤ 1000 ∧ z.length ≠ 0 ∧ Q (.str ⟨(List.replicate k.toNat z.cps).foldl (· ++ ·) #[]⟩) H)) :=
  OpR.or op_mulA (OpR.or op_repA (OpR.or op_rep op_repS))
theorem pm_mul (ha : PMR X W a ma) (hb : PMR X W b mb) : PM X W (.BinOp a .Mult b pos) (op2M ma mb mulF) := pm_bin op_mul4 ops_mul ha hb
def fdivC (_ j : Int) : Bool := decide (j ≠ 0) && decide (j.natAbs.log2 < 9000)
def fdivF : D → D → Option D := intF fdivC Int.fdiv
theorem op_fdivA : OpR X (binaryOp .FloorDiv) (rI (fun _ j => j ≠ 0 ∧ j.natAbs.log2 < 9000) fun i j => .int (i.fdiv j)) := opI fun _ _ _ _ _ _ _ hc q => floordiv_int hc.1 q (.inl (PyProof.noPylong_of_log2 hc.2))
theorem pm_fdiv (ha : PMR X W a ma) (hb : PMR X W b mb) : PM X W (.BinOp a .FloorDiv b pos) (op2M ma mb fdivF) := pm_bin op_fdivA (ops_int fun i j h => by
  unfold fdivC at h
  simp only [Bool.and_eq_true, decide_eq_true_eq] at h
  exact h) ha hb
def modF : D → D → Option D := intF (fun _ j => decide (j ≠ 0)) Int.fmod
theorem pm_mod (ha : PMR X W a ma) (hb : PMR X W b mb) : PM X W (.BinOp a .Mod b pos) (op2M ma mb modF) := pm_bin op_modN (ops_int fun i j h => of_decide_eq_true h) ha hb
def powF : D → D → Option D := intF (fun i j => decide (0 ≤ j) && (decide (j ≤ 1000000) && decide (i.natAbs < 2 ^ 64))) (fun i j => i ^ j.toNat)
theorem pm_pow (ha : PMR X W a ma) (hb : PMR X W b mb) : PM X W (.BinOp a .Pow b pos) (op2M ma mb powF) := pm_bin op_pow (ops_int fun i j h => by
  simp only [Bool.and_eq_true, decide_eq_true_eq] at h
  exact ⟨h.1, h.2.1, h.2.2⟩) ha hb
/-- -n -/
def negM (m : M D) : M D := bindM m fun d => match d with
  | .int i => pureM (.int (-i))
  | _ => errM
theorem pm_neg {m : M D} (ha : PM X W a m) : PM X W (.UnaryOp .USub a pos) (negM m) := by
  refine PE.weaken (pe_un un_neg ha) ?_
  rintro σ H Q ⟨ra, HK, F, e, R, h⟩
  unfold negM at h
  refine stepG R h fun F1 e1 d v H1 s1 R1 r1 q1 => ?_
  cases d with
  | int i =>
    cases r1
    exact ⟨i, rfl, q1 _ F1 H1 (Same.refl F1) R1 (.int _)⟩
  | _ => exact q1.elim
end
end Mi

set_option Elab.async false
set_option linter.all false
set_option maxRecDepth 100000
set_option maxHeartbeats 4000000
/-! Mi, part E: order, in, is, and, or, not, if. -/
namespace Mi
open PySem PySem.Spec PyProof.Rows L2

/-! ### the order of tuples -/
inductive Ord3 where
  | lt | le | gt
  deriving DecidableEq
def Ord3.op : Ord3 → CmpOp
  | .lt => .Lt
  | .le => .LtE
  | .gt => .Gt
def Ord3.int : Ord3 → Int → Int → Bool
  | .lt, i, j => decide (i < j)
  | .le, i, j => decide (i ≤ j)
  | .gt, i, j => decide (j < i)
def Ord3.len : Ord3 → Nat → Nat → Bool
  | .lt, i, j => decide (i < j)
  | .le, i, j => decide (i ≤ j)
  | .gt, i, j => decide (j < i)
mutual
/-- x < y and its like: numbers, tuples of comparable things (all pairs are looked at) -/
def D.cmp (o : Ord3) : Nat → D → D → Option Bool
  | _, .int i, .int j => some (o.int i j)
  | 0, _, _ => none
  | n + 1, .tup l, .tup m => D.cmps o n l m (o.len l.length m.length)
  | _, _, _ => none
def D.cmps (o : Ord3) : Nat → List D → List D → Bool → Option Bool
  | n, x :: xs, y :: ys, z => match (if x.plain 20 && y.plain 20 then some (x.eqv y) else none), D.cmps o n xs ys z with
    | some true, some c => some c
    | some false, some _ => D.cmp o n x y
    | _, _ => none
  | _, [], _, z => some z
  | _, _ :: _, [], z => some z
end
theorem cmps_all {o : Ord3} {n : Nat} : ∀ (xs ys : List D) (z b : Bool), D.cmps o n xs ys z = some b → ∀ j, j < xs.length → j < ys.length →
    (xs.getD j .non).plain 20 = true ∧ (ys.getD j .non).plain 20 = true ∧ ((xs.getD j .non).eqv (ys.getD j .non) = false → ∃ c, D.cmp o n (xs.getD j .non) (ys.getD j .non) = some c)
  | [], _, _, _, _, j, h1, _ => by simp at h1
  | _ :: _, [], _, _, _, j, _, h2 => by simp at h2
  | x :: xs, y :: ys, z, b, h, j, h1, h2 => by
    simp only [D.cmps] at h
    by_cases p : (x.plain 20 && y.plain 20) = true
    · rw [if_pos p] at h
      obtain ⟨p1, p2⟩ := Bool.and_eq_true_iff.mp p
      cases ht : D.cmps o n xs ys z with
      | none =>
        rw [ht] at h
        cases hx : x.eqv y <;> rw [hx] at h <;> cases h
      | some c =>
        cases j with
        | zero =>
          refine ⟨p1, p2, fun e => ?_⟩
          have e' : x.eqv y = false := e
          rw [ht, e'] at h
          exact ⟨b, h⟩
        | succ j =>
          have := cmps_all xs ys z c ht j (by simpa using h1) (by simpa using h2)
          simpa using this
    · rw [if_neg p] at h
      cases h
theorem cmps_lex {o : Ord3} {n : Nat} {e r : Nat → Bool} : ∀ (xs ys : List D) (z b : Bool) (i : Nat), D.cmps o n xs ys z = some b →
    (∀ j, j < xs.length → j < ys.length → e (i + j) = (xs.getD j .non).eqv (ys.getD j .non) ∧ r (i + j) = (D.cmp o n (xs.getD j .non) (ys.getD j .non)).getD false) →
    Ob.lexAt e r z i (min xs.length ys.length) = b
  | [], _, _, _, _, h, _ => by
    simp only [D.cmps] at h
    cases h
    simp [Ob.lexAt]
  | _ :: _, [], _, _, _, h, _ => by
    simp only [D.cmps] at h
    cases h
    simp [Ob.lexAt]
  | x :: xs, y :: ys, z, b, i, h, k => by
    have k0 := k 0 (by simp) (by simp)
    simp only [Nat.add_zero, List.getD_cons_zero] at k0
    have em : min (x :: xs).length (y :: ys).length = min xs.length ys.length + 1 := by simp [Nat.succ_min_succ]
    rw [em, Ob.lexAt_succ, k0.1, k0.2]
    simp only [D.cmps] at h
    by_cases p : (x.plain 20 && y.plain 20) = true
    · rw [if_pos p] at h
      cases ht : D.cmps o n xs ys z with
      | none =>
        rw [ht] at h
        cases hx : x.eqv y <;> rw [hx] at h <;> cases h
      | some c =>
        cases hx : x.eqv y with
        | true =>
          rw [if_pos rfl]
          rw [ht, hx] at h
          cases h
          refine cmps_lex xs ys z b (i + 1) ht fun j h1 h2 => ?_
          have := k (j + 1) (by simpa using h1) (by simpa using h2)
          simp only [List.getD_cons_succ] at this
          rw [show i + 1 + j = i + (j + 1) by omega]
          exact this
        | false =>
          rw [if_neg Bool.false_ne_true]
          rw [ht, hx] at h
          have h' : D.cmp o n x y = some b := h
          rw [h']
          rfl
    · rw [if_neg p] at h
      cases h
theorem readsAll_at {h : Heap} : ∀ {us : List Value} {l : List D} {as : List Addr}, ReadsAll h us (D.pds l) as → us.length = l.length ∧ ∀ j (hj : j < us.length), ∃ bs, Reads h us[j] (l.getD j .non).pd bs
  | [], [], _, _ => ⟨rfl, fun j hj => by simp at hj⟩
  | [], _ :: _, _, r => by
    simp only [D.pds] at r
    cases r
  | _ :: _, [], _, r => by
    simp only [D.pds] at r
    cases r
  | u :: us, d :: l, _, r => by
    simp only [D.pds] at r
    cases r with
    | cons r1 r2 =>
      obtain ⟨e, k⟩ := readsAll_at r2
      refine ⟨by simp [e], fun j hj => ?_⟩
      cases j with
      | zero => exact ⟨_, r1⟩
      | succ j => simpa using k j (by simpa using hj)
theorem cmp_run (o : Ord3) : ∀ (n : Nat) (d d' : D) (b : Bool), D.cmp o n d d' = some b → ∀ (A : Around) (s : Shared) (u u' : Value) (as bs : List Addr), Reads s.heap u d.pd as → Reads s.heap u' d'.pd bs → A.units + n + 30 < cLine → Ob.RcOp o.op A s u u' b := by
  have int_case : ∀ (i j : Int) (b : Bool), some (o.int i j) = some b → ∀ (A : Around) (s : Shared) (u u' : Value) (as bs : List Addr), Reads s.heap u (D.int i).pd as → Reads s.heap u' (D.int j).pd bs → Ob.RcOp o.op A s u u' b := by
    intro i j b h A s u u' as bs r r'
    cases h
    cases r
    cases r'
    cases o with
    | lt => exact Ob.RcOp.lt_int _ _ _ _
    | le => exact Ob.RcOp.le_int _ _ _ _
    | gt => exact Ob.RcOp.gt_int _ _ _ _
  intro n
  induction n with
  | zero =>
    intro d d' b h A s u u' as bs r r' hu
    cases d <;> cases d' <;> simp only [D.cmp] at h <;> first | (cases h; done) | exact int_case _ _ _ h A s u u' as bs r r'
  | succ n ih =>
    intro d d' b h A s u u' as bs r r' hu
    cases d with
    | int i =>
      cases d' with
      | int j => exact int_case _ _ _ (by simpa only [D.cmp] using h) A s u u' as bs r r'
      | _ => simp [D.cmp] at h
    | tup l =>
      cases d' with
      | tup m =>
        simp only [D.cmp] at h
        simp only [D.pd] at r r'
        cases r with
        | @tuple a oa vs na _ _ ho hc hd hr =>
          cases r' with
          | @tuple a' oa' vs' na' _ _ ho' hc' hd' hr' =>
            obtain ⟨e1, k1⟩ := readsAll_at hr
            obtain ⟨e2, k2⟩ := readsAll_at hr'
            have all := cmps_all l m _ b h
            have s1 : vs.size = l.length := by simpa using e1
            have s2 : vs'.size = m.length := by simpa using e2
            have lex := cmps_lex (e := fun j => (l.getD j .non).eqv (m.getD j .non)) (r := fun j => (D.cmp o n (l.getD j .non) (m.getD j .non)).getD false) l m _ b 0 h (fun j _ _ => by simp)
            have he : ∀ j (h1 : j < vs.size) (h2 : j < vs'.size), SeqAt.EqAt A.in1 s vs[j] vs'[j] ((l.getD j .non).eqv (m.getD j .non)) := fun j h1 h2 => by
              obtain ⟨p1, p2, _⟩ := all j (by omega) (by omega)
              obtain ⟨cs, q1⟩ := k1 j (by simpa using h1)
              obtain ⟨cs', q2⟩ := k2 j (by simpa using h2)
              obtain ⟨y1, y2⟩ := plain_lay _ _ p1
              obtain ⟨y3, y4⟩ := plain_lay _ _ p2
              have q1' : Reads s.heap vs[j] (l.getD j .non).pd cs := by simpa using q1
              have q2' : Reads s.heap vs'[j] (m.getD j .non).pd cs' := by simpa using q2
              have z := SeqAt.eqAt_reads _ _ A.in1 s _ _ _ _ q1' q2' y1 y3 (by have : A.in1.units = A.units + 1 := rfl; omega)
              rw [eqv_pd _ _ _ _ p1 p2] at z
              exact z
            have hr2 : ∀ j (h1 : j < vs.size) (h2 : j < vs'.size), (l.getD j .non).eqv (m.getD j .non) = false → Ob.RcOp o.op A.in1 s vs[j] vs'[j] ((D.cmp o n (l.getD j .non) (m.getD j .non)).getD false) := fun j h1 h2 e0 => by
              obtain ⟨p1, p2, p3⟩ := all j (by omega) (by omega)
              obtain ⟨c, hc0⟩ := p3 e0
              obtain ⟨cs, q1⟩ := k1 j (by simpa using h1)
              obtain ⟨cs', q2⟩ := k2 j (by simpa using h2)
              have q1' : Reads s.heap vs[j] (l.getD j .non).pd cs := by simpa using q1
              have q2' : Reads s.heap vs'[j] (m.getD j .non).pd cs' := by simpa using q2
              rw [hc0]
              exact ih _ _ c hc0 A.in1 s _ _ _ _ q1' q2' (by have : A.in1.units = A.units + 1 := rfl; omega)
            have T1 : s.heap.IsTuple a vs := ⟨oa, ho, hc, na, hd⟩
            have T2 : s.heap.IsTuple a' vs' := ⟨oa', ho', hc', na', hd'⟩
            rw [← lex]
            cases o with
            | lt =>
              have z := Ob.RcOp.tuples_lt (A := A) (s := s) T1 T2 (by omega) he hr2
              rw [s1, s2] at z
              exact z
            | le =>
              have z := Ob.RcOp.tuples_le (A := A) (s := s) T1 T2 (by omega) he hr2
              rw [s1, s2] at z
              exact z
            | gt =>
              have z := Ob.RcOp.tuples_gt (A := A) (s := s) T1 T2 (by omega) he hr2
              rw [s1, s2] at z
              exact z
      | _ => simp [D.cmp] at h
    | _ => simp [D.cmp] at h
def ordF (o : Ord3) (d e : D) : Option D := if d.plain 20 && e.plain 20 then (D.cmp o 10 d e).map D.bl else none
def rOrd (K : PySem.W.Frag) (o : Ord3) : R2 := fun x y H Q => ∃ (d d' : D) (b : Bool), Dp K H x d.pd ∧ Dp K H y d'.pd ∧ D.cmp o 10 d d' = some b ∧ Q (.bl b) H
theorem plain_up : ∀ (d : D) (n m : Nat), n ≤ m → d.plain n = true → d.plain m = true := by
  have main : ∀ (m : Nat), (∀ (d : D) (n : Nat), n ≤ m → d.plain n = true → d.plain m = true) := by
    intro m
    induction m with
    | zero =>
      intro d n h p
      have : n = 0 := by omega
      subst this
      exact p
    | succ m ih =>
      have lst : ∀ (l : List D) (n : Nat), n ≤ m → D.plains n l = true → D.plains m l = true := by
        intro l
        induction l with
        | nil => intro n _ _; rfl
        | cons x xs ihl =>
          intro n h p
          simp only [D.plains, Bool.and_eq_true] at p ⊢
          exact ⟨ih x n h p.1, ihl n h p.2⟩
      intro d n h p
      cases d with
      | tup l =>
        cases n with
        | zero => simp [D.plain] at p
        | succ n =>
          simp only [D.plain] at p ⊢
          exact lst l n (by omega) p
      | lst l =>
        cases n with
        | zero => simp [D.plain] at p
        | succ n =>
          simp only [D.plain] at p ⊢
          exact lst l n (by omega) p
      | _ => first | rfl | exact p | simp_all [D.plain]
  exact fun d n m h p => main m d n h p
section
variable {X : Cx} {W : WX} {a b : Expr} {ma mb : M Ref} {pos : Pos}
theorem op_ord (o : Ord3) (hu : X.A.units + 64 < cLine) : OpR X (compareOp o.op) (rOrd X.K o) := by
  intro pins s σ H x y v u Q I rx ry h
  obtain ⟨d, e, c, hd, he, hc, q⟩ := h
  obtain ⟨as, r1⟩ := Dp.reads I d.pd x v hd rx
  obtain ⟨bs, r2⟩ := Dp.reads I e.pd y u he ry
  have z := cmp_run o 10 d e c hc X.A s v u as bs r1 r2 (by omega) X.prog X.w X.xe (EP X pins σ Q) ⟨.bl c, H, I, rfl, q⟩
  cases o <;> exact z
theorem ops_ord (o : Ord3) : OpS X.w X.K (rOrd X.K o) (ordF o) := by
  intro ra HK F e σ H x y d d' z Q R hx hy hz q
  unfold ordF at hz
  by_cases c : (d.plain 20 && d'.plain 20) = true
  · rw [if_pos c] at hz
    obtain ⟨c1, c2⟩ := Bool.and_eq_true_iff.mp c
    cases hb : D.cmp o 10 d d' with
    | none =>
      rw [hb] at hz
      cases hz
    | some b =>
      rw [hb] at hz
      cases hz
      exact ⟨d, d', b, hx.dp R.fh (plain_up _ _ _ (by omega) c1), hy.dp R.fh (plain_up _ _ _ (by omega) c2), hb, q _ F H (Same.refl F) R (.bl _)⟩
  · rw [if_neg c] at hz
    cases hz
theorem pm_le (hu : X.A.units + 64 < cLine) (ha : PMR X W a ma) (hb : PMR X W b mb) : PM X W (.Compare a [.LtE] [b] pos) (op2M ma mb (ordF .le)) := pm_cmp (op_ord .le hu) (ops_ord .le) ha hb (nomark _)
theorem pm_gt (hu : X.A.units + 64 < cLine) (ha : PMR X W a ma) (hb : PMR X W b mb) : PM X W (.Compare a [.Gt] [b] pos) (op2M ma mb (ordF .gt)) := pm_cmp (op_ord .gt hu) (ops_ord .gt) ha hb (nomark _)
theorem pmt_lt (hu : X.A.units + 64 < cLine) (ha : PMR X W a ma) (hb : PMR X W b mb) : PMT X W (.Compare a [.Lt] [b] pos) (testM (op2M ma mb (ordF .lt))) := pmt_cmp (op_ord .lt hu) (ops_ord .lt) ha hb (nomark _)
theorem pmt_le (hu : X.A.units + 64 < cLine) (ha : PMR X W a ma) (hb : PMR X W b mb) : PMT X W (.Compare a [.LtE] [b] pos) (testM (op2M ma mb (ordF .le))) := pmt_cmp (op_ord .le hu) (ops_ord .le) ha hb (nomark _)
theorem pmt_gt (hu : X.A.units + 64 < cLine) (ha : PMR X W a ma) (hb : PMR X W b mb) : PMT X W (.Compare a [.Gt] [b] pos) (testM (op2M ma mb (ordF .gt))) := pmt_cmp (op_ord .gt hu) (ops_ord .gt) ha hb (nomark _)
def geF : D → D → Option D := cmpF fun i j => decide (j ≤ i)
theorem pm_ge (ha : PMR X W a ma) (hb : PMR X W b mb) : PM X W (.Compare a [.GtE] [b] pos) (op2M ma mb geF) := pm_cmp op_ge ops_cmp ha hb (nomark _)
theorem pmt_ge (ha : PMR X W a ma) (hb : PMR X W b mb) : PMT X W (.Compare a [.GtE] [b] pos) (testM (op2M ma mb geF)) := pmt_cmp op_ge ops_cmp ha hb (nomark _)
theorem pm_eq (hu : X.A.units + 64 < cLine) (ha : PMR X W a ma) (hb : PMR X W b mb) : PM X W (.Compare a [.Eq] [b] pos) (op2M ma mb eqF) := pm_cmp (op_eqD hu) ops_eq ha hb (nomark _)
theorem pmt_eq (hu : X.A.units + 64 < cLine) (ha : PMR X W a ma) (hb : PMR X W b mb) : PMT X W (.Compare a [.Eq] [b] pos) (testM (op2M ma mb eqF)) := pmt_cmp (op_eqD hu) ops_eq ha hb (nomark _)
theorem pmt_ne (hu : X.A.units + 64 < cLine) (ha : PMR X W a ma) (hb : PMR X W b mb) : PMT X W (.Compare a [.NotEq] [b] pos) (testM (op2M ma mb neF)) := pmt_cmp (op_neD hu) ops_ne ha hb (nomark _)
end
end Mi

set_option Elab.async false
set_option linter.all false
set_option maxRecDepth 100000
set_option maxHeartbeats 4000000
/-! Mi, part F: dicts with nested keys, or with numbers as keys. -/
namespace Mi
open PySem PySem.Spec PyProof.Rows L2

/-! ### the mirror's dicts -/
def sameKey (d e : D) : Bool := match d, e with
  | .tup _, .tup _ => true
  | .int _, .int _ => true
  | _, _ => false
def kindOk (kvs : List (D × D)) (k : D) : Bool := match kvs with
  | [] => sameKey k k
  | p :: _ => sameKey p.1 k
def dget (kvs : List (D × D)) (k : D) : Option D := (kvs.find? fun p => decide (p.1.hk = k.hk)).map (·.2)
def dput (kvs : List (D × D)) (k v : D) : List (D × D) :=
  if (kvs.any fun p => decide (p.1.hk = k.hk)) = true then kvs.map (fun p => if p.1.hk = k.hk then (p.1, v) else p) else kvs ++ [(k, v)]
/-! ### .. by machine values -/
def eget (es : List (NestedKey × V × V)) (k : NestedKey) : Option V := (es.find? fun e => decide (e.1 = k)).map (·.2.2)
def eput (es : List (NestedKey × V × V)) (k : NestedKey) (kv vv : V) : List (NestedKey × V × V) :=
  if (es.any fun e => decide (e.1 = k)) = true then es.map (fun e => if e.1 = k then (e.1, e.2.1, vv) else e) else es ++ [(k, kv, vv)]
theorem eget_cons {e : NestedKey × V × V} {es : List (NestedKey × V × V)} {k : NestedKey} : eget (e :: es) k = if e.1 = k then some e.2.2 else eget es k := by
  unfold eget
  rw [List.find?_cons]
  by_cases c : e.1 = k
  · rw [decide_eq_true c, if_pos c]
    rfl
  · rw [decide_eq_false c, if_neg c]
theorem dget_cons {p : D × D} {kvs : List (D × D)} {k : D} : dget (p :: kvs) k = if p.1.hk = k.hk then some p.2 else dget kvs k := by
  unfold dget
  rw [List.find?_cons]
  by_cases c : p.1.hk = k.hk
  · rw [decide_eq_true c, if_pos c]
    rfl
  · rw [decide_eq_false c, if_neg c]
section
variable {w : World} {K : PySem.W.Frag} {ra : Addr} {F : Hp}
theorem RepE.get : ∀ {es : List (NestedKey × V × V)} {kvs : List (D × D)} {dk : D} {k : NestedKey}, RepE w K ra F es kvs → dk.hk = some k →
    (∀ dv, dget kvs dk = some dv → ∃ vv, eget es k = some vv ∧ Rep w K ra F vv dv) ∧ (dget kvs dk = none → eget es k = none)
  | _, _, dk, k, .nil, h => ⟨fun dv e => (by cases e), fun _ => rfl⟩
  | _, _, dk, k, .cons (k := k') (dk := dk') hk h1 h2 r, h => by
    rw [dget_cons, eget_cons]
    obtain ⟨i1, i2⟩ := RepE.get r h
    by_cases c : k' = k
    · have c' : dk'.hk = dk.hk := by rw [hk, h, c]
      rw [if_pos c, if_pos c']
      exact ⟨fun dv e => by cases e; exact ⟨_, rfl, h2⟩, fun e => by cases e⟩
    · have c' : ¬ dk'.hk = dk.hk := fun z => c (by rw [hk, h] at z; exact Option.some.inj z)
      rw [if_neg c, if_neg c']
      exact ⟨i1, i2⟩
theorem RepE.any : ∀ {es : List (NestedKey × V × V)} {kvs : List (D × D)} {dk : D} {k : NestedKey}, RepE w K ra F es kvs → dk.hk = some k →
    (es.any fun e => decide (e.1 = k)) = (kvs.any fun p => decide (p.1.hk = dk.hk))
  | _, _, dk, k, .nil, h => rfl
  | _, _, dk, k, .cons (k := k') (dk := dk') hk h1 h2 r, h => by
    rw [List.any_cons, List.any_cons, RepE.any r h]
    have : decide (k' = k) = decide (dk'.hk = dk.hk) := by
      rw [hk, h]
      by_cases c : k' = k
      · rw [decide_eq_true c, decide_eq_true (congrArg some c)]
      · rw [decide_eq_false c, decide_eq_false fun z => c (Option.some.inj z)]
    rw [this]
theorem RepE.repl : ∀ {es : List (NestedKey × V × V)} {kvs : List (D × D)} {dk : D} {k : NestedKey} {vv : V} {dv : D}, RepE w K ra F es kvs → dk.hk = some k → Rep w K ra F vv dv →
    RepE w K ra F (es.map fun e => if e.1 = k then (e.1, e.2.1, vv) else e) (kvs.map fun p => if p.1.hk = dk.hk then (p.1, dv) else p)
  | _, _, dk, k, vv, dv, .nil, h, hv => .nil
  | _, _, dk, k, vv, dv, .cons (k := k') (dk := dk') hk h1 h2 r, h, hv => by
    rw [List.map_cons, List.map_cons]
    by_cases c : k' = k
    · have c' : dk'.hk = dk.hk := by rw [hk, h, c]
      rw [if_pos c, if_pos c']
      exact .cons hk h1 hv (RepE.repl r h hv)
    · have c' : ¬ dk'.hk = dk.hk := fun z => c (by rw [hk, h] at z; exact Option.some.inj z)
      rw [if_neg c, if_neg c']
      exact .cons hk h1 h2 (RepE.repl r h hv)
theorem RepE.snoc : ∀ {es : List (NestedKey × V × V)} {kvs : List (D × D)} {dk dv : D} {k : NestedKey} {kv vv : V}, RepE w K ra F es kvs → dk.hk = some k → Rep w K ra F kv dk → Rep w K ra F vv dv →
    RepE w K ra F (es ++ [(k, kv, vv)]) (kvs ++ [(dk, dv)])
  | _, _, _, _, _, _, _, .nil, h, h1, h2 => .cons h h1 h2 .nil
  | _, _, _, _, _, _, _, .cons a b c r, h, h1, h2 => .cons a b c (RepE.snoc r h h1 h2)
theorem RepE.put {es : List (NestedKey × V × V)} {kvs : List (D × D)} {dk dv : D} {k : NestedKey} {kv vv : V} (r : RepE w K ra F es kvs) (h : dk.hk = some k) (h1 : Rep w K ra F kv dk) (h2 : Rep w K ra F vv dv) :
    RepE w K ra F (eput es k kv vv) (dput kvs dk dv) := by
  unfold eput dput
  rw [r.any h]
  by_cases c : (kvs.any fun p => decide (p.1.hk = dk.hk)) = true
  · rw [if_pos c, if_pos c]
    exact r.repl h h2
  · rw [if_neg c, if_neg c]
    exact r.snoc h h1 h2
end

/-! ### two sorts of keys -/
def ER (e : NestedKey × V × V) (x : NestedKey × Addr × Value) : Prop := e.1 = x.1 ∧ e.2.1 = .ref x.2.1 ∧ RelV e.2.2 x.2.2
def IR (e : NestedKey × V × V) (q : Int × Value) : Prop := e.1 = .num q.1 ∧ e.2.1 = .int q.1 ∧ RelV e.2.2 q.2
theorem ER.get {k : NestedKey} : ∀ {es : List (NestedKey × V × V)} {xs : List (NestedKey × Addr × Value)}, Paired ER es xs → (∀ vv, eget es k = some vv → ∃ p, atKey xs k = some p ∧ RelV vv p.2) ∧ (eget es k = none → atKey xs k = none)
  | _, _, .nil => ⟨fun vv e => (by cases e), fun _ => rfl⟩
  | e :: es, x :: xs, .cons h r => by
    obtain ⟨i1, i2⟩ := ER.get r
    obtain ⟨h1, h2, h3⟩ := h
    rw [eget_cons]
    by_cases c : e.1 = k
    · have b : atKey (x :: xs) k = some x.2 := by simp [atKey, List.find?_cons, h1 ▸ c]
      rw [if_pos c, b]
      exact ⟨fun vv q => by cases q; exact ⟨_, rfl, h3⟩, fun q => by cases q⟩
    · have c' : ¬ x.1 = k := fun z => c (h1.trans z)
      have b : atKey (x :: xs) k = atKey xs k := by simp [atKey, List.find?_cons, c']
      rw [if_neg c, b]
      exact ⟨i1, i2⟩
theorem IR.get {k : Int} : ∀ {es : List (NestedKey × V × V)} {xs : List (Int × Value)}, Paired IR es xs → (∀ vv, eget es (.num k) = some vv → ∃ p, valueAt xs k = some p ∧ RelV vv p) ∧ (eget es (.num k) = none → valueAt xs k = none)
  | _, _, .nil => ⟨fun vv e => (by cases e), fun _ => rfl⟩
  | e :: es, x :: xs, .cons h r => by
    obtain ⟨i1, i2⟩ := IR.get r
    obtain ⟨h1, h2, h3⟩ := h
    rw [eget_cons]
    by_cases c : e.1 = .num k
    · have c' : x.1 = k := by rw [h1] at c; injection c
      have b : valueAt (x :: xs) k = some x.2 := by simp [valueAt, List.find?_cons, c']
      rw [if_pos c, b]
      exact ⟨fun vv q => by cases q; exact ⟨_, rfl, h3⟩, fun q => by cases q⟩
    · have c' : ¬ x.1 = k := fun z => c (by rw [h1, z])
      have b : valueAt (x :: xs) k = valueAt xs k := by simp [valueAt, List.find?_cons, c']
      rw [if_neg c, b]
      exact ⟨i1, i2⟩
theorem paired_snoc {α β : Type} {R : α → β → Prop} : ∀ {l : List α} {m : List β} {a : α} {b : β}, Paired R l m → R a b → Paired R (l ++ [a]) (m ++ [b])
  | _, _, _, _, .nil, h => .cons h .nil
  | _, _, _, _, .cons h r, q => .cons h (paired_snoc r q)
theorem ER.put {k : NestedKey} {a : Addr} {vv : V} {u : Value} (hv : RelV vv u) {es : List (NestedKey × V × V)} {xs : List (NestedKey × Addr × Value)} (r : Paired ER es xs) : Paired ER (eput es k (.ref a) vv) (storedH xs k a u) := by
  have anyE : (es.any fun e => decide (e.1 = k)) = (atKey xs k).isSome := by
    induction r with
    | nil => rfl
    | @cons e x es xs h t ih =>
      rw [List.any_cons, ih]
      by_cases c : e.1 = k
      · have b : atKey (x :: xs) k = some x.2 := by simp [atKey, List.find?_cons, h.1 ▸ c]
        rw [decide_eq_true c, b]
        rfl
      · have c' : ¬ x.1 = k := fun z => c (h.1.trans z)
        have b : atKey (x :: xs) k = atKey xs k := by simp [atKey, List.find?_cons, c']
        rw [decide_eq_false c, b, Bool.false_or]
  have repl : Paired ER (es.map fun e => if e.1 = k then (e.1, e.2.1, vv) else e) (xs.map (putAt k u)) := by
    clear anyE
    induction r with
    | nil => exact .nil
    | @cons e x es xs h t ih =>
      rw [List.map_cons, List.map_cons]
      refine .cons ?_ ih
      unfold putAt
      by_cases c : e.1 = k
      · rw [if_pos c, if_pos (h.1.symm.trans c)]
        exact ⟨h.1, h.2.1, hv⟩
      · rw [if_neg c, if_neg fun z => c (h.1.trans z)]
        exact h
  unfold eput storedH
  rw [anyE]
  by_cases c : (atKey xs k).isSome = true
  · rw [if_pos c, if_pos c]
    exact repl
  · rw [if_neg c, if_neg c]
    exact paired_snoc r ⟨rfl, rfl, hv⟩
theorem IR.put {k : Int} {vv : V} {u : Value} (hv : RelV vv u) {es : List (NestedKey × V × V)} {xs : List (Int × Value)} (r : Paired IR es xs) : Paired IR (eput es (.num k) (.int k) vv) (stored xs k u) := by
  have key : ∀ {e : NestedKey × V × V} {x : Int × Value}, IR e x → (e.1 = .num k ↔ x.1 = k) := fun {e x} h => ⟨fun z => by rw [h.1] at z; injection z, fun z => by rw [h.1, z]⟩
  have anyE : (es.any fun e => decide (e.1 = NestedKey.num k)) = (xs.any fun kv => decide (kv.1 = k)) := by
    induction r with
    | nil => rfl
    | @cons e x es xs h t ih =>
      rw [List.any_cons, List.any_cons, ih, decide_eq_decide.mpr (key h)]
  have repl : Paired IR (es.map fun e => if e.1 = NestedKey.num k then (e.1, e.2.1, vv) else e) (xs.map fun kv => if kv.1 = k then (kv.1, u) else kv) := by
    clear anyE
    induction r with
    | nil => exact .nil
    | @cons e x es xs h t ih =>
      rw [List.map_cons, List.map_cons]
      refine .cons ?_ ih
      by_cases c : e.1 = .num k
      · rw [if_pos c, if_pos ((key h).mp c)]
        exact ⟨h.1, h.2.1, hv⟩
      · rw [if_neg c, if_neg fun z => c ((key h).mpr z)]
        exact h
  unfold eput stored
  rw [anyE]
  by_cases c : (xs.any fun kv => decide (kv.1 = k)) = true
  · rw [if_pos c, if_pos c]
    exact repl
  · rw [if_neg c, if_neg c]
    exact paired_snoc r ⟨rfl, rfl, hv⟩

/-! ### to and from the library's dicts -/
section
variable {X : Cx} {pins : List (Addr × Obj)} {σ : L2.St} {H F : Hp} {s : Shared} {ra : Addr}
mutual
theorem Rep.nested (I : Inv X pins σ H s) (fh : Same F H) : ∀ (d : D) {v : V} {k : NestedKey} {u : Value}, Rep X.w X.K ra F v d → d.key = some k → RelV v u → NestedIs s.heap k u
  | .non, v, k, u, r, h, q => by
    cases h
    cases r
    cases q
    exact .none
  | .int i, v, k, u, r, h, q => by
    cases h
    cases r
    obtain ⟨t, rfl⟩ := q
    exact .int i t
  | .str x, v, k, u, r, h, q => by
    cases h
    cases r
    obtain ⟨t, rfl⟩ := q
    exact .text x t
  | .bl b, v, k, u, r, h, q => by
    cases h
    cases r
    cases q
    exact .bool rfl
  | .tup l, v, k, u, r, h, q => by
    simp only [D.key, Option.map_eq_some_iff] at h
    obtain ⟨ks, h1, rfl⟩ := h
    cases r with
    | tup hs ha =>
      cases q
      obtain ⟨its, rv, ⟨o, ho, hc, n, hd⟩, _⟩ := I.tuple (Same.seqT fh hs)
      exact .tup ho hc hd (by simpa using RepA.nested I fh l ha h1 rv)
  | .lst _, _, _, _, _, h, _ => by cases h
  | .dct _, _, _, _, _, h, _ => by cases h
  | .obj _, _, _, _, _, h, _ => by cases h
  | .row, _, _, _, _, h, _ => by cases h
theorem RepA.nested (I : Inv X pins σ H s) (fh : Same F H) : ∀ (l : List D) {vs : List V} {ks : List NestedKey} {us : List Value}, RepA X.w X.K ra F vs l → D.keys l = some ks → Vals vs us → NestedAll s.heap ks us
  | [], vs, ks, us, r, h, q => by
    cases h
    cases r
    cases q
    exact .nil
  | d :: ds, vs, ks, us, r, h, q => by
    simp only [D.keys] at h
    cases e1 : d.key with
    | none =>
      rw [e1] at h
      cases h
    | some k =>
      cases e2 : D.keys ds with
      | none =>
        rw [e1, e2] at h
        cases h
      | some ks' =>
        rw [e1, e2] at h
        cases h
        cases r with
        | cons r1 r2 =>
          cases q with
          | cons q1 q2 => exact .cons (Rep.nested I fh d r1 e1 q1) (RepA.nested I fh ds r2 e2 q2)
end
theorem inv_dictP {a : Addr} {es : List (NestedKey × V × V)} (I : Inv X pins σ H s) (h : DictAt X.w H a es) :
    (a == sysModules) = false ∧ es.length ≤ sizeLine ∧ (es.map (·.1)).Nodup ∧ Uni es ∧ ∃ o des ep, s.heap.get? a = some o ∧ o.ExactDict ∧ o.data = .dict des ep ∧ Paired (DEnt X.w) es des.toList ∧ H a = some (objO a o) := by
  obtain ⟨o, h1, p1, p2, p3, p4, hc, des, ep, hd, pr⟩ := h
  exact ⟨p1, p2, p3, p4, o, des, ep, (show ObjOk X.prog X.w H s.heap a (objO a o) from I.hok a _ h1).1, hc, hd, pr, h1⟩
theorem refs_of {w : World} {P : Program} : ∀ {es : List (NestedKey × V × V)} {des : List DictEntry}, Paired (DEnt w) es des → (∀ e ∈ es, ∃ a, e.2.1 = .ref a) → ∃ xs : List (NestedKey × Addr × Value), Paired ER es xs ∧ des = xs.map (entryOfKey (nestedKind P w))
  | _, _, .nil, _ => ⟨[], .nil, rfl⟩
  | e :: es, de :: des, .cons h r, k => by
    obtain ⟨xs, h1, h2⟩ := refs_of (P := P) r fun x hx => k x (List.mem_cons_of_mem _ hx)
    obtain ⟨a, ea⟩ := k e List.mem_cons_self
    obtain ⟨g1, g2, g3⟩ := h
    rw [ea] at g2
    have g2' : de.key = .ref a := g2
    refine ⟨(e.1, a, de.val) :: xs, .cons ⟨rfl, ea, g3⟩ h1, ?_⟩
    rw [List.map_cons, h2]
    congr 1
    obtain ⟨hh, kk, vv⟩ := de
    show DictEntry.mk hh kk vv = ⟨(nestedKind P w).hash e.1, .ref a, vv⟩
    have e1 : hh = e.1.hash w := g1
    have e2 : kk = .ref a := g2'
    rw [e1, e2]
    rfl
theorem ints_of {w : World} {K : PySem.W.Frag} {P : Program} : ∀ {es : List (NestedKey × V × V)} {kvs : List (D × D)} {des : List DictEntry}, RepE w K ra F es kvs → Paired (DEnt w) es des → (∀ e ∈ es, ∃ i, e.2.1 = .int i) → ∃ xs : List (Int × Value), Paired IR es xs ∧ Pairs (PySem.intKind P w) des xs ∧ ∀ de ∈ des, ∃ k, (PySem.intKind P w).is k de.key = true ∧ de.hash = (PySem.intKind P w).hash k
  | _, _, _, .nil, .nil, _ => ⟨[], .nil, .nil, fun _ h => by cases h⟩
  | e :: es, _, de :: des, .cons hk r1 r2 rr, .cons h r, k => by
    obtain ⟨xs, h1, h2, h3⟩ := ints_of (P := P) rr r fun x hx => k x (List.mem_cons_of_mem _ hx)
    obtain ⟨i, ei⟩ := k _ List.mem_cons_self
    obtain ⟨g1, g2, g3⟩ := h
    rw [ei] at g2
    obtain ⟨t, g2'⟩ := (show ∃ t, de.key = .int i t from g2)
    have ek : e.1 = .num i := by
      have hk1 := (hk_of hk).1
      rw [show _ = V.int i from ei] at r1
      cases r1
      simp [D.key] at hk1
      exact hk1.symm
    have isk : (PySem.intKind P w).is i de.key = true := by
      rw [g2']
      show Value.isInt i (.int i t) = true
      simp [Value.isInt]
    refine ⟨(i, de.val) :: xs, .cons ⟨ek, ei, g3⟩ h1, .cons isk rfl h2, fun x hx => ?_⟩
    rcases List.mem_cons.mp hx with z | hx
    · subst z
      exact ⟨i, isk, by rw [g1, ek]; rfl⟩
    · exact h3 x hx
theorem RepE.all_nested (I : Inv X pins σ H s) (fh : Same F H) : ∀ {es : List (NestedKey × V × V)} {kvs : List (D × D)} {xs : List (NestedKey × Addr × Value)}, RepE X.w X.K ra F es kvs → Paired ER es xs → ∀ x ∈ xs, (nestedKind X.prog X.w).is s.heap x.1 x.2.1
  | _, _, _, .nil, .nil, x, hx => by cases hx
  | _, _, _, .cons hk r1 r2 rr, .cons h r, x, hx => by
    rcases List.mem_cons.mp hx with z | hx
    · subst z
      obtain ⟨g1, g2, g3⟩ := h
      obtain ⟨k1, k2⟩ := hk_of hk
      have g2' : _ = V.ref x.2.1 := g2
      subst g2'
      have g1' : _ = x.1 := g1
      subst g1'
      exact ⟨Rep.nested I fh _ r1 k1 rfl, k2⟩
    · exact RepE.all_nested I fh rr r x hx
/-- the dict as the library has it -/
theorem inv_dictRef {a : Addr} {es : List (NestedKey × V × V)} {kvs : List (D × D)} (I : Inv X pins σ H s) (fh : Same F H) (h : DictAt X.w H a es) (r : RepE X.w X.K ra F es kvs) (hr : ∀ e ∈ es, ∃ a, e.2.1 = .ref a) :
    ∃ xs, Paired ER es xs ∧ s.heap.DictOfH (nestedKind X.prog X.w) a xs ∧ (a == sysModules) = false ∧ es.length ≤ sizeLine := by
  obtain ⟨p1, p2, p3, p4, o, des, ep, ho, hc, hd, pr, _⟩ := inv_dictP I h
  obtain ⟨xs, x1, x2⟩ := refs_of (P := X.prog) pr hr
  refine ⟨xs, x1, ⟨o, des, ep, ho, hc, hd, x2, RepE.all_nested I fh r x1, ?_⟩, p1, p2⟩
  have : xs.map (·.1) = es.map (·.1) := by
    clear x2 pr r hr p2 p3 p4 h
    induction x1 with
    | nil => rfl
    | cons h t ih => rw [List.map_cons, List.map_cons, ih, h.1]
  rw [this]
  exact p3
theorem inv_dictInt {a : Addr} {es : List (NestedKey × V × V)} {kvs : List (D × D)} (I : Inv X pins σ H s) (h : DictAt X.w H a es) (r : RepE X.w X.K ra F es kvs) (hr : ∀ e ∈ es, ∃ a, e.2.1 = .int a) :
    ∃ xs, Paired IR es xs ∧ s.heap.DictOf (PySem.intKind X.prog X.w) a xs ∧ (a == sysModules) = false ∧ es.length ≤ sizeLine := by
  obtain ⟨p1, p2, p3, p4, o, des, ep, ho, hc, hd, pr, _⟩ := inv_dictP I h
  obtain ⟨xs, x1, x2, x3⟩ := ints_of (P := X.prog) r pr hr
  refine ⟨xs, x1, ⟨o, des, ep, ho, hc, hd, fun e he => x3 e (by simpa using he), x2, ?_⟩, p1, p2⟩
  have : es.map (·.1) = (xs.map (·.1)).map NestedKey.num := by
    clear x2 x3 pr r hr p2 p3 p4 h
    induction x1 with
    | nil => rfl
    | cons h t ih => rw [List.map_cons, List.map_cons, List.map_cons, ih, h.1]
  rw [this] at p3
  exact List.Pairwise.of_map _ (fun a b (z : NestedKey.num a ≠ NestedKey.num b) e => z (by rw [e])) p3
end
end Mi

set_option Elab.async false
set_option linter.all false
set_option maxRecDepth 100000
set_option maxHeartbeats 4000000
/-! Mi, part G: in, subscripts, slices, len. -/
namespace Mi
open PySem PySem.Spec PyProof.Rows L2

section
variable {w : World} {K : PySem.W.Frag} {ra : Addr} {F : Hp}
theorem uni_refs {es : List (NestedKey × V × V)} {kvs : List (D × D)} {l : List D} (r : RepE w K ra F es kvs) (u : Uni es) (k : kindOk kvs (.tup l) = true) : ∀ e ∈ es, ∃ a, e.2.1 = .ref a := by
  cases r with
  | nil => exact fun e h => by cases h
  | @cons k0 kv vv dk dv es kvs hk r1 r2 rr =>
    cases dk with
    | tup m =>
      rcases u with u | u
      · exact u
      · obtain ⟨i, ei⟩ := u _ List.mem_cons_self
        cases r1
        cases ei
    | _ => cases k
theorem uni_ints {es : List (NestedKey × V × V)} {kvs : List (D × D)} {i : Int} (r : RepE w K ra F es kvs) (u : Uni es) (k : kindOk kvs (.int i) = true) : ∀ e ∈ es, ∃ a, e.2.1 = .int a := by
  cases r with
  | nil => exact fun e h => by cases h
  | @cons k0 kv vv dk dv es kvs hk r1 r2 rr =>
    cases dk with
    | int m =>
      rcases u with u | u
      · obtain ⟨a, ea⟩ := u _ List.mem_cons_self
        cases r1
        cases ea
      · exact u
    | _ => cases k
end
/-- a dict as a rule sees it -/
structure DAt (w : World) (K : PySem.W.Frag) (ra : Addr) (F H : Hp) (y : V) (a : Addr) (es : List (NestedKey × V × V)) (kvs : List (D × D)) : Prop where
  eq : y = .ref a
  fh : Same F H
  at_ : DictAt w H a es
  rep : RepE w K ra F es kvs
theorem Held.dat {w : World} {K : PySem.W.Frag} {ra : Addr} {F H : Hp} (fh : Same F H) {v : V} {kvs : List (D × D)} (h : Held w K ra F H v (.dct kvs)) : ∃ a es, DAt w K ra F H v a es kvs := by
  obtain ⟨a, es, h1, h2, h3⟩ := h.dct fh
  exact ⟨a, es, h1, fh, h2, h3⟩
section
variable {X : Cx}
/-- k in d -/
def rInN (w : World) (K : PySem.W.Frag) (neg : Bool) : R2 := fun x y H Q => ∃ ra F a es kvs dk, DAt w K ra F H y a es kvs ∧ Rep w K ra F x dk ∧ kindOk kvs dk = true ∧ dk.hk.isSome = true ∧ Q (.bl (if neg then !(dget kvs dk).isSome else (dget kvs dk).isSome)) H
theorem some_of {α : Type} {o : Option α} (h : o.isSome = true) : ∃ a, o = some a := by
  cases o with
  | none => cases h
  | some a => exact ⟨a, rfl⟩
theorem eget_some {w : World} {K : PySem.W.Frag} {ra : Addr} {F : Hp} {es : List (NestedKey × V × V)} {kvs : List (D × D)} {dk : D} {k : NestedKey} (r : RepE w K ra F es kvs) (h : dk.hk = some k) : (eget es k).isSome = (dget kvs dk).isSome := by
  obtain ⟨g1, g2⟩ := r.get h
  cases e : dget kvs dk with
  | none =>
    rw [g2 e]
    rfl
  | some dv =>
    obtain ⟨vv, h1, _⟩ := g1 dv e
    rw [h1]
    rfl
theorem op_inN (hu : X.A.units + 64 < cLine) : OpR X (compareOp .In) (rInN X.w X.K false) := by
  intro pins s σ H x y v u Q I rx ry h
  obtain ⟨ra, F, a, es, kvs, dk, d, r, hk, hs, q⟩ := h
  obtain ⟨rfl, fh, ha, re⟩ := d
  obtain ⟨k, ek⟩ := some_of hs
  cases ry
  have un := (inv_dictP I ha).2.2.2.1
  have eq : (eget es k).isSome = (dget kvs dk).isSome := eget_some re ek
  have hu8 : X.A.in1.units + 8 < cLine := by
    have : X.A.in1.units = X.A.units + 1 := rfl
    omega
  cases dk with
  | tup l =>
    obtain ⟨xs, p, hm, hd, _⟩ := inv_dictRef I fh ha re (uni_refs re un hk)
    cases r with
    | @tup b vs ds hq hr =>
      cases rx
      have kk := hk_of ek
      have isk : (nestedKind X.prog X.w).is s.heap k b := ⟨Rep.nested I fh (.tup l) (.tup hq hr) kk.1 rfl, kk.2⟩
      refine wpAny_in_heap hu8 isk hd hm ⟨.bl _, H, I.tok _, rfl, ?_⟩
      have : (atKey xs k).isSome = (eget es k).isSome := by
        obtain ⟨g1, g2⟩ := ER.get (k := k) p
        cases e : eget es k with
        | none =>
          rw [g2 e]
          rfl
        | some vv =>
          obtain ⟨p, h1, _⟩ := g1 vv e
          rw [h1]
          rfl
      rw [this, eq]
      exact q
  | int i =>
    obtain ⟨xs, p, hm, hd, _⟩ := inv_dictInt I ha re (uni_ints re un hk)
    cases r
    obtain ⟨t, rfl⟩ := rx
    have ei : k = .num i := by
      have := (hk_of ek).1
      simp [D.key] at this
      exact this.symm
    subst ei
    refine wpAny_in_of (knd := PySem.intKind X.prog X.w) (k := i) (by simp [PySem.intKind, Value.isInt]) hd hm.mapOf ⟨.bl _, H, I.tok _, rfl, ?_⟩
    have : (valueAt xs i).isSome = (eget es (.num i)).isSome := by
      obtain ⟨g1, g2⟩ := IR.get (k := i) p
      cases e : eget es (.num i) with
      | none =>
        rw [g2 e]
        rfl
      | some vv =>
        obtain ⟨p, h1, _⟩ := g1 vv e
        rw [h1]
        rfl
    rw [this, eq]
    exact q
  | _ => cases kvs with
    | nil => cases hk
    | cons p kvs => (obtain ⟨p1, p2⟩ := p; cases p1 <;> cases hk)
/-- x in a list or tuple of data -/
def rInS (K : PySem.W.Frag) (neg : Bool) : R2 := fun x y H Q => ∃ d ds, Dp K H x d ∧ (Dp K H y (.list ds) ∨ Dp K H y (.tuple ds)) ∧ SeqAt.shaped d = true ∧ PyData.canLayAll0 ds = true ∧ Q (.bl (if neg then !(ds.any fun z => PyData.eqv z d) else ds.any fun z => PyData.eqv z d)) H
theorem op_inS (hu : X.A.units + 65 < cLine) : OpR X (compareOp .In) (rInS X.K false) := by
  intro pins s σ H x y v u Q I rx ry h
  obtain ⟨d, ds, hd, he, sd, se, q⟩ := h
  obtain ⟨as, r1⟩ := Dp.reads I d x v hd rx
  rcases he with he | he
  · obtain ⟨bs, r2⟩ := Dp.reads I (.list ds) y u he ry
    exact SeqAt.in_list_reads r2 r1 se (SeqAt.canLay_of_shaped sd) (room_in_shaped sd hu) ⟨.bl _, H, I, rfl, q⟩
  · obtain ⟨bs, r2⟩ := Dp.reads I (.tuple ds) y u he ry
    exact SeqAt.in_tuple_reads r2 r1 se (SeqAt.canLay_of_shaped sd) (room_in_shaped sd hu) ⟨.bl _, H, I, rfl, q⟩
def inF (neg : Bool) (d c : D) : Option D := match c with
  | .lst l => if d.plain 20 && D.plains 20 l then some (.bl (if neg then !(l.any fun z => z.eqv d) else l.any fun z => z.eqv d)) else none
  | .tup l => if d.plain 20 && D.plains 20 l then some (.bl (if neg then !(l.any fun z => z.eqv d) else l.any fun z => z.eqv d)) else none
  | .dct kvs => if kindOk kvs d && d.hk.isSome then some (.bl (if neg then !(dget kvs d).isSome else (dget kvs d).isSome)) else none
  | _ => none
theorem pds_any {d : D} (hd : d.plain 20 = true) : ∀ (l : List D), D.plains 20 l = true → ((D.pds l).any fun z => PyData.eqv z d.pd) = l.any fun z => z.eqv d
  | [], _ => rfl
  | x :: xs, h => by
    simp only [D.plains, Bool.and_eq_true] at h
    simp only [D.pds, List.any_cons]
    rw [eqv_pd x d 20 20 h.1 hd, pds_any hd xs h.2]
theorem ops_in (neg : Bool) : OpS X.w X.K (fun x y H Q => rInN X.w X.K neg x y H Q ∨ rInS X.K neg x y H Q) (inF neg) := by
  intro ra HK F e σ H x y d c z Q R hx hy hz q
  cases c with
  | dct kvs =>
    simp only [inF] at hz
    by_cases k : (kindOk kvs d && d.hk.isSome) = true
    · rw [if_pos k] at hz
      cases hz
      obtain ⟨k1, k2⟩ := Bool.and_eq_true_iff.mp k
      obtain ⟨a, es, da⟩ := hy.dat R.fh
      refine .inl ⟨ra, F, a, es, kvs, d, da, ?_, k1, k2, q _ F H (Same.refl F) R (.bl _)⟩
      cases hx with
      | val r => exact r
      | @own a o _ _ _ => cases o <;> (cases kvs with
        | nil => cases k1
        | cons p kvs => (obtain ⟨p1, p2⟩ := p; cases p1 <;> cases k1))
    · rw [if_neg k] at hz
      cases hz
  | lst l =>
    simp only [inF] at hz
    by_cases k : (d.plain 20 && D.plains 20 l) = true
    · rw [if_pos k] at hz
      cases hz
      obtain ⟨k1, k2⟩ := Bool.and_eq_true_iff.mp k
      have p60 := plain_up d 20 60 (by omega) k1
      have l60 : (D.lst l).plain 60 = true := plain_up (.lst l) 21 60 (by omega) (by simpa only [D.plain] using k2)
      refine .inr ⟨d.pd, D.pds l, hx.dp R.fh p60, .inl (by simpa only [D.pd] using hy.dp R.fh l60), plain_shaped p60, (plains_lay l 20 k2).1, ?_⟩
      rw [pds_any k1 l k2]
      exact q _ F H (Same.refl F) R (.bl _)
    · rw [if_neg k] at hz
      cases hz
  | tup l =>
    simp only [inF] at hz
    by_cases k : (d.plain 20 && D.plains 20 l) = true
    · rw [if_pos k] at hz
      cases hz
      obtain ⟨k1, k2⟩ := Bool.and_eq_true_iff.mp k
      have p60 := plain_up d 20 60 (by omega) k1
      have l60 : (D.tup l).plain 60 = true := plain_up (.tup l) 21 60 (by omega) (by simpa only [D.plain] using k2)
      refine .inr ⟨d.pd, D.pds l, hx.dp R.fh p60, .inr (by simpa only [D.pd] using hy.dp R.fh l60), plain_shaped p60, (plains_lay l 20 k2).1, ?_⟩
      rw [pds_any k1 l k2]
      exact q _ F H (Same.refl F) R (.bl _)
    · rw [if_neg k] at hz
      cases hz
  | _ => cases hz
variable {W : WX} {a b : Expr} {ma mb : M Ref} {pos : Pos}
theorem pm_in (hu : X.A.units + 65 < cLine) (ha : PMR X W a ma) (hb : PMR X W b mb) (hm : behindInMarks .In b = false := by rfl) : PM X W (.Compare a [.In] [b] pos) (op2M ma mb (inF false)) := pm_cmp (OpR.or (op_inN (by omega)) (op_inS hu)) (ops_in false) ha hb hm
end
end Mi

set_option Elab.async false
set_option linter.all false
set_option maxRecDepth 100000
set_option maxHeartbeats 4000000
/-! Mi, part H: subscripts, slices, len, isinstance, is, and, or, not, if, attributes. -/
namespace Mi
open PySem PySem.Spec PyProof.Rows L2

theorem atI_rep {w : World} {K : PySem.W.Frag} {ra : Addr} {F : Hp} {vs : List V} {ds : List D} (r : RepA w K ra F vs ds) {i : Int} {d : D} (h : atI ds i = some d) : ∃ v, atI vs i = some v ∧ Rep w K ra F v d := by
  unfold atI at h ⊢
  rw [r.length]
  cases e : ixN ds.length i with
  | none =>
    rw [e] at h
    cases h
  | some j =>
    rw [e] at h
    have h' : ds[j]? = some d := h
    obtain ⟨v, h1, h2⟩ := r.get h'
    exact ⟨v, h1, h2⟩
/-- x[i] -/
def ixF (d i : D) : Option D := match d with
  | .lst l => (match i with | .int i => atI l i | _ => none)
  | .tup l => (match i with | .int i => atI l i | _ => none)
  | .dct kvs => if kindOk kvs i && i.hk.isSome then dget kvs i else none
  | _ => none
section
variable {X : Cx}
/-- d[k] -/
def rIxN (w : World) (K : PySem.W.Frag) : R2 := fun x y H Q => ∃ ra F a es kvs dk dv, DAt w K ra F H x a es kvs ∧ Rep w K ra F y dk ∧ kindOk kvs dk = true ∧ dk.hk.isSome = true ∧ dget kvs dk = some dv ∧ ∀ v, Rep w K ra F v dv → Q v H
theorem ix_dict (hu : X.A.units + 64 < cLine) : IxR X (rIxN X.w X.K) := by
  intro value slice pins s σ H x y v u Q I rx ry h hsl
  obtain ⟨ra, F, a, es, kvs, dk, dv, d, r, hk, hs, hg, q⟩ := h
  obtain ⟨rfl, fh, ha, re⟩ := d
  obtain ⟨k, ek⟩ := some_of hs
  cases rx
  have un := (inv_dictP I ha).2.2.2.1
  obtain ⟨vv, g1, g2⟩ := (re.get ek).1 dv hg
  have hu8 : X.A.in1.units + 8 < cLine := by
    have : X.A.in1.units = X.A.units + 1 := rfl
    omega
  have hT : s.TypeIs (.ref a) "dict" := by
    obtain ⟨_, _, _, _, o, _, _, ho, hc, _⟩ := inv_dictP I ha
    exact ⟨o, ho, hc.1⟩
  have main : wpAny (model X.prog X.w) X.A (getItem (.ref a) u) (EP X pins σ Q) X.xe s := by
    cases dk with
    | tup l =>
      obtain ⟨xs, p, hm, hd, _⟩ := inv_dictRef I fh ha re (uni_refs re un hk)
      cases r with
      | @tup b vs ds hq hr =>
        cases ry
        have kk := hk_of ek
        have isk : (nestedKind X.prog X.w).is s.heap k b := ⟨Rep.nested I fh (.tup l) (.tup hq hr) kk.1 rfl, kk.2⟩
        obtain ⟨p', e1, e2⟩ := (ER.get (k := k) p).1 vv g1
        exact wpAny_getItem_heap hu8 isk hm e1 ⟨vv, H, I.tok _, e2, q vv g2⟩
    | int i =>
      obtain ⟨xs, p, hm, hd, _⟩ := inv_dictInt I ha re (uni_ints re un hk)
      cases r
      obtain ⟨t, rfl⟩ := ry
      have ei : k = .num i := by
        have := (hk_of ek).1
        simp [D.key] at this
        exact this.symm
      subst ei
      obtain ⟨p', e1, e2⟩ := (IR.get (k := i) p).1 vv g1
      exact wpAny_getItem_of (knd := PySem.intKind X.prog X.w) (k := i) (by simp [PySem.intKind, Value.isInt]) hm.mapOf e1 ⟨vv, H, I.tok _, e2, q vv g2⟩
    | _ => cases kvs with
      | nil => cases hk
      | cons p kvs => (obtain ⟨p1, p2⟩ := p; cases p1 <;> cases hk)
  unfold subscriptTail
  refine wpAny_bind ?_
  rw [getitemInPython_of_ne hT.not_modules]
  refine wpAny_bind (wpAny_specialOf hT PySem.F.slot_dict_getitem.lookup ?_)
  have fin : wpAny (model X.prog X.w) X.A (subscripted slice false (.ref a) u) (fun r s₃ => wpAny (model X.prog X.w) X.A (letTemporaryGo value (.ref a) r >>= fun _ => pure r) (EP X pins σ Q) X.xe s₃) X.xe s := by
    rw [hsl]
    exact wpAny_operating (wpAny_mono main (fun r s₃ h₃ => wpAny_bind (wpAny_letTemporaryGo (wpAny_pure h₃))) fun _ _ x => x)
  first
    | exact wpAny_pure (wpAny_bind fin)
    | exact wpAny_bind (wpAny_pure (wpAny_bind fin))
    | exact wpAny_bind fin
theorem ops_ix : OpS X.w X.K (fun x y H Q => rIxL X.K x y H Q ∨ rIxT X.K x y H Q ∨ rIxN X.w X.K x y H Q) ixF := by
  intro ra HK F e σ H x y d i z Q R hx hy hz q
  cases d with
  | lst l =>
    cases i with
    | int i =>
      obtain ⟨a, vs, rfl, h1, h2⟩ := hx.lst R.fh
      obtain ⟨v, e1, e2⟩ := atI_rep h2 hz
      exact .inl ⟨a, vs, i, v, rfl, hy.int_, .of h1, e1, q v F H (Same.refl F) R e2⟩
    | _ => cases hz
  | tup l =>
    cases i with
    | int i =>
      obtain ⟨a, vs, rfl, h1, h2⟩ := hx.tup R.fh
      obtain ⟨v, e1, e2⟩ := atI_rep h2 hz
      exact .inr (.inl ⟨a, vs, i, v, rfl, hy.int_, h1, e1, q v F H (Same.refl F) R e2⟩)
    | _ => cases hz
  | dct kvs =>
    simp only [ixF] at hz
    by_cases k : (kindOk kvs i && i.hk.isSome) = true
    · rw [if_pos k] at hz
      obtain ⟨k1, k2⟩ := Bool.and_eq_true_iff.mp k
      obtain ⟨a, es, da⟩ := hx.dat R.fh
      refine .inr (.inr ⟨ra, F, a, es, kvs, i, z, da, ?_, k1, k2, hz, fun v r => q v F H (Same.refl F) R r⟩)
      cases hy with
      | val r => exact r
      | @own a o _ _ _ => cases o <;> (cases kvs with
        | nil => cases k1
        | cons p kvs => (obtain ⟨p1, p2⟩ := p; cases p1 <;> cases k1))
    · rw [if_neg k] at hz
      cases hz
  | _ => cases hz
variable {W : WX} {a b : Expr} {ma mb : M Ref} {pos : Pos}
theorem pm_ix (hu : X.A.units + 64 < cLine) (ha : PMR X W a ma) (hb : PMR X W b mb) (hs : PlainIx b := by exact fun _ _ => rfl) : PM X W (.Subscript a b pos) (op2M ma mb ixF) :=
  PE.weaken (pe_ix (ix_list.or (ix_tup.or (ix_dict hu))) ha hb hs) fun _ _ _ h => op_read ops_ix h

/-! ### slices -/
def TP : RT (Option Int) (Option Int) := fun _ _ _ _ _ _ _ _ b b' => b = b'
def PMP (X : Cx) (W : WX) (e : Option Expr) (m : M (Option Int)) : Prop := PO X e (tG TP X.w X.K W m)
def partM (m : M D) : M (Option Int) := bindM m fun d => match d with
  | .int i => pureM (some i)
  | _ => errM
theorem PO.weaken {e : Option Expr} {t t' : L2.TO} (h : PO X e t) (k : ∀ σ H Q, t' σ H Q → t σ H Q) : PO X e t' := ⟨fun pins s σ H Q I hw => h.run pins s σ H Q I (k σ H Q hw)⟩
theorem pmp_none : PMP X W none (pureM none) := PO.weaken po_none fun σ H Q h => by
  obtain ⟨ra, HK, F, e, R, h⟩ := h
  exact h none F H (Same.refl F) R rfl
theorem pmp_some {e : Expr} {m : M D} (h : PM X W e m) : PMP X W (some e) (partM m) := by
  refine PO.weaken (po_some h) ?_
  rintro σ H Q ⟨ra, HK, F, e, R, hw⟩
  unfold partM at hw
  refine stepG R hw fun F1 e1 d v H1 s1 R1 r1 q1 => ?_
  cases d with
  | int i =>
    cases r1
    exact ⟨i, rfl, q1 _ F1 H1 (Same.refl F1) R1 rfl⟩
  | _ => exact q1.elim
/-- the items of x[lo:hi] -/
def cutD (xs : List D) (lo hi : Option Int) : List D := (xs.drop (HT.sIx xs.length 0 lo)).take (HT.sIx xs.length xs.length hi - HT.sIx xs.length 0 lo)
def cutF (d : D) (lo hi : Option Int) : Option D := match d with
  | .tup l => some (.tup (cutD l lo hi))
  | .lst l => some (.lst (cutD l lo hi))
  | _ => none
def sliceM (m : M Ref) (ml mh : M (Option Int)) : M D := bindM m fun x => bindM ml fun lo => bindM mh fun hi => bindM (derefM x) fun d => liftO (cutF d lo hi)
theorem cut_rep {w : World} {K : PySem.W.Frag} {ra : Addr} {F : Hp} {vs : List V} {ds : List D} (r : RepA w K ra F vs ds) (lo hi : Option Int) : RepA w K ra F (cutV vs lo hi) (cutD ds lo hi) := by
  unfold cutV cutD
  rw [r.length]
  exact (r.drop _).take _
theorem cut_whole {ds : List D} {lo hi : Option Int} (h : HT.sIx ds.length 0 lo = 0 ∧ HT.sIx ds.length ds.length hi = ds.length) : cutD ds lo hi = ds := by
  unfold cutD
  rw [h.1, h.2]
  simp
theorem pm_slice {lo hi : Option Expr} {p2 : Pos} {ml mh : M (Option Int)} (ha : PMR X W a ma) (hl : PMP X W lo ml) (hh : PMP X W hi mh) : PM X W (.Subscript a (.Slice lo hi none p2) pos) (sliceM ma ml mh) := by
  refine PE.weaken (pe_slice (SlR.or sl_tupA sl_list) ha hl hh) ?_
  rintro σ H Q ⟨ra, HK, F, e, R, hw⟩
  unfold sliceM at hw
  refine stepG R hw fun F1 e1 x v H1 s1 R1 r1 q1 => ?_
  refine stepG R1 q1 fun F2 e2 l l' H2 s2 R2 r2 q2 => ?_
  refine stepG R2 q2 fun F3 e3 h h' H3 s3 R3 r3 q3 => ?_
  have r2' : l' = l := r2
  have r3' : h' = h := r3
  subst r2' r3'
  have r1' : TR X.w X.K ra HK σ e3 F3 H3 v x := by
    cases x with
    | val d => exact Rep.mono (s2.trans s3) r1
    | slot i => exact r1
  obtain ⟨d, hd, q4, _⟩ := R3.deref r1' q3
  cases d with
  | tup ds =>
    obtain ⟨b, vs, rfl, h1, h2⟩ := hd.tup R3.fh
    refine .inl ⟨b, vs, rfl, h1, fun c => ?_, fun c p hp => ?_⟩
    · rw [h2.length] at c
      have q5 : okG TV X.w X.K ra HK F3 σ Q (D.tup (cutD ds l' h')) e3 := q4
      rw [cut_whole c] at q5
      exact q5 _ F3 H3 (Same.refl F3) R3 hd.rep_tup
    · obtain ⟨R4, s4⟩ := R3.alloc hp (.tup (cutV vs l' h'))
      exact q4 _ _ _ s4 R4 (.tup (.of upd_same) (RepA.mono s4 (cut_rep h2 l' h')))
  | lst ds =>
    obtain ⟨b, vs, rfl, h1, h2⟩ := hd.lst R3.fh
    refine .inr ⟨b, vs, rfl, .of h1, fun p hp => ?_⟩
    obtain ⟨R4, s4⟩ := R3.alloc hp (.lst (cutV vs l' h'))
    exact q4 _ _ _ s4 R4 (.lst upd_same (RepA.mono s4 (cut_rep h2 l' h')))
  | _ => exact q4.elim

/-! ### built-ins of one argument -/
def op1M (ma : M Ref) (f : D → Option D) : M D := bindM ma fun x => bindM (derefM x) fun d => liftO (f d)
def C1S (w : World) (K : PySem.W.Frag) (r : List V → Hp → VK → Prop) (f : D → Option D) : Prop :=
  ∀ (ra : Addr) (HK : Kp) (F : Hp) (e : Env) (σ : St) (H : Hp) (x : V) (d z : D) (Q : VK), Rel w K ra HK F e σ H → Held w K ra F H x d → f d = some z → okG TV w K ra HK F σ Q z e → r [x] H Q
theorem one_read {r : List V → Hp → VK → Prop} {f : D → Option D} (hs : C1S X.w X.K r f) {σ : St} {H : Hp} {Q : VK} (h : tG TV X.w X.K W (op1M ma f) σ H Q) : tCB r (tCons (tG TR X.w X.K W ma) tNil) σ H Q := by
  obtain ⟨ra, HK, F, e, R, hw⟩ := h
  unfold op1M at hw
  refine stepG R hw fun F1 e1 x v H1 s1 R1 r1 q1 => ?_
  obtain ⟨d, hd, q2, _⟩ := R1.deref r1 q1
  unfold liftO at q2
  cases ez : f d with
  | none =>
    rw [ez] at q2
    exact q2.elim
  | some z =>
    rw [ez] at q2
    exact hs ra HK F1 e1 σ H1 v d z Q R1 hd ez q2
theorem pm_call1 {x : Str} {id : String} {p : Pos} {r : List V → Hp → VK → Prop} {f : D → Option D} (hc : CallR X (.builtin id) r) (hs : C1S X.w X.K r f) (hm : X.mg x = none) (hv : bootBuiltins x = some (.builtin id)) (ha : PMR X W a ma) (hg : Gl X x := by rfl)
    (hn : x ≠ "__name__" := by decide) (hdb : (x == ("__debug__" : Str)) = false := by decide) (hse : starEach [a] X.env = (false, eval a X.env) :: starEach [] X.env := by rfl) : PM X W (.Call (.Name x p) [a] [] pos) (op1M ma f) :=
  PE.weaken (pe_callB hc hg hm hv (pa_cons ha pa_nil hse) hn hdb hse rfl) fun _ _ _ h => one_read hs h
theorem pm_callT1 {x : Str} {T : String} {p : Pos} {r : List V → Hp → VK → Prop} {f : D → Option D} (hc : CallR X (.type T) r) (hs : C1S X.w X.K r f) (hm : X.mg x = none) (hv : bootBuiltins x = some (.type T)) (ha : PMR X W a ma) (hg : Gl X x := by rfl)
    (hn : x ≠ "__name__" := by decide) (hdb : (x == ("__debug__" : Str)) = false := by decide) (hse : starEach [a] X.env = (false, eval a X.env) :: starEach [] X.env := by rfl) : PM X W (.Call (.Name x p) [a] [] pos) (op1M ma f) :=
  PE.weaken (pe_callTy hc hg hm hv (pa_cons ha pa_nil hse) hn hdb hse rfl) fun _ _ _ h => one_read hs h
/-- len -/
def lenF (d : D) : Option D := match d with
  | .lst l => some (.int l.length)
  | .tup l => some (.int l.length)
  | .dct l => some (.int l.length)
  | _ => none
def rLenN (w : World) (K : PySem.W.Frag) : List V → Hp → VK → Prop := fun xs H Q => ∃ ra F a es kvs y, xs = [y] ∧ DAt w K ra F H y a es kvs ∧ Q (.int kvs.length) H
theorem call_lenN : CallR X (.builtin "len") (rLenN X.w X.K) := by
  intro pins s σ H xs us Q I r h
  obtain ⟨ra, F, a, es, kvs, y, rfl, ⟨rfl, fh, ha, re⟩, q⟩ := h
  obtain ⟨u, rfl, rx⟩ := vals1 r
  cases rx
  have l63 := line63
  rw [← re.length] at q
  rcases (inv_dictP I ha).2.2.2.1 with un | un
  · obtain ⟨xs, p, hm, hd, hz⟩ := inv_dictRef I fh ha re un
    have hl : es.length = xs.length := Paired.length p
    exact call_len_dictH hd hm (by omega) ⟨.int es.length, H, I.tok _, ⟨_, by rw [hl]⟩, q⟩
  · obtain ⟨xs, p, hm, hd, hz⟩ := inv_dictInt I ha re un
    have hl : es.length = xs.length := Paired.length p
    exact call_len_dict hd hm (by omega) ⟨.int es.length, H, I.tok _, ⟨_, by rw [hl]⟩, q⟩
theorem CallR.or' {f : Value} {r r' : List V → Hp → VK → Prop} (h : CallR X f r) (h' : CallR X f r') : CallR X f (fun xs H Q => r xs H Q ∨ r' xs H Q) := by
  intro pins s σ H xs us Q I rv q
  rcases q with q | q
  · exact h pins s σ H xs us Q I rv q
  · exact h' pins s σ H xs us Q I rv q
theorem c1s_len : C1S X.w X.K (fun xs H Q => (∃ p ys, xs = [.ref p] ∧ (SqL X.K H p ys ∨ SqT X.K H p ys) ∧ Q (.int ys.length) H) ∨ rLenN X.w X.K xs H Q) lenF := by
  intro ra HK F e σ H x d z Q R hx hz q
  cases d with
  | lst l =>
    cases hz
    obtain ⟨a, vs, rfl, h1, h2⟩ := hx.lst R.fh
    exact .inl ⟨a, vs, rfl, .inl (.of h1), by rw [h2.length]; exact q _ F H (Same.refl F) R (.int _)⟩
  | tup l =>
    cases hz
    obtain ⟨a, vs, rfl, h1, h2⟩ := hx.tup R.fh
    exact .inl ⟨a, vs, rfl, .inr h1, by rw [h2.length]; exact q _ F H (Same.refl F) R (.int _)⟩
  | dct l =>
    cases hz
    obtain ⟨a, es, da⟩ := hx.dat R.fh
    exact .inr ⟨ra, F, a, es, l, x, rfl, da, q _ F H (Same.refl F) R (.int _)⟩
  | _ => cases hz
theorem pm_len {p : Pos} (hm : X.mg "len" = none) (ha : PMR X W a ma) (hg : Gl X "len" := by rfl) (hse : starEach [a] X.env = (false, eval a X.env) :: starEach [] X.env := by rfl) : PM X W (.Call (.Name "len" p) [a] [] pos) (op1M ma lenF) :=
  pm_call1 (CallR.or' call_len_seq call_lenN) c1s_len hm PySem.boot_len ha hg (by decide) (by decide) hse
/-- int(n), int(flag) -/
def toIntF (d : D) : Option D := match d with
  | .int i => some (.int i)
  | .bl b => some (.int (if b then 1 else 0))
  | _ => none
theorem c1s_int : C1S X.w X.K (fun xs H Q => (∃ i, xs = [.int i] ∧ Q (.int i) H) ∨ ∃ k, xs = [.bl k] ∧ Q (.int (if k then 1 else 0)) H) toIntF := by
  intro ra HK F e σ H x d z Q R hx hz q
  cases d with
  | int i =>
    cases hz
    exact .inl ⟨i, by rw [hx.int_], q _ F H (Same.refl F) R (.int _)⟩
  | bl b =>
    cases hz
    exact .inr ⟨b, by rw [hx.bl_], q _ F H (Same.refl F) R (.int _)⟩
  | _ => cases hz
theorem pm_toInt {p : Pos} (hm : X.mg "int" = none) (ha : PMR X W a ma) (hg : Gl X "int" := by rfl) (hse : starEach [a] X.env = (false, eval a X.env) :: starEach [] X.env := by rfl) : PM X W (.Call (.Name "int" p) [a] [] pos) (op1M ma toIntF) :=
  pm_callT1 call_int1 c1s_int hm boot_int ha hg (by decide) (by decide) hse
/-- tuple(list), tuple(tuple) -/
def tupleF (d : D) : Option D := match d with
  | .lst l => some (.tup l)
  | .tup l => some (.tup l)
  | _ => none
def rTup (K : PySem.W.Frag) : List V → Hp → VK → Prop := fun vs H Q => ∃ x, vs = [x] ∧ kTup K x H Q
theorem call_tup : CallR X (.type "tuple") (rTup X.K) := by
  intro pins s σ H xs us Q I r h
  obtain ⟨x, rfl, h⟩ := h
  obtain ⟨u, rfl, rx⟩ := vals1 r
  exact rl_tuple pins s σ H x u Q I rx h
end
end Mi

set_option Elab.async false
set_option linter.all false
set_option maxRecDepth 100000
set_option maxHeartbeats 4000000
/-! Mi, part I: tuple, list, isinstance, is, and, or, not, if, chains, attributes. -/
namespace Mi
open PySem PySem.Spec PyProof.Rows L2
section
variable {X : Cx} {W : WX} {a b c : Expr} {ma mb : M Ref} {pos : Pos}
theorem c1s_tup : C1S X.w X.K (rTup X.K) tupleF := by
  intro ra HK F e σ H x d z Q R hx hz q
  cases d with
  | lst l =>
    cases hz
    obtain ⟨a, vs, rfl, h1, h2⟩ := hx.lst R.fh
    refine ⟨_, rfl, .inl ⟨a, vs, rfl, .of h1, fun p hp => ?_⟩⟩
    obtain ⟨R2, s2⟩ := R.alloc hp (.tup vs)
    exact q _ _ _ s2 R2 (.tup (.of upd_same) (RepA.mono s2 h2))
  | tup l =>
    cases hz
    obtain ⟨a, vs, rfl, h1, h2⟩ := hx.tup R.fh
    exact ⟨_, rfl, .inr ⟨a, vs, rfl, h1, q _ F H (Same.refl F) R hx.rep_tup⟩⟩
  | _ => cases hz
theorem pm_tupleOf {p : Pos} (hm : X.mg "tuple" = none) (hv : bootBuiltins "tuple" = some (.type "tuple")) (ha : PMR X W a ma) (hg : Gl X "tuple" := by rfl) (hse : starEach [a] X.env = (false, eval a X.env) :: starEach [] X.env := by rfl) : PM X W (.Call (.Name "tuple" p) [a] [] pos) (op1M ma tupleF) :=
  pm_callT1 call_tup c1s_tup hm hv ha hg (by decide) (by decide) hse
/-- list(list), list(tuple): a new one -/
def listO (d : D) : Option OD := match d with
  | .lst l => some (.lst l)
  | .tup l => some (.lst l)
  | _ => none
def op1O (ma : M Ref) (f : D → Option OD) : M OD := bindM ma fun x => bindM (derefM x) fun d => liftO (f d)
/-! ### isinstance -/
def D.ty : D → Option String
  | .non => some "NoneType"
  | .bl _ => some "bool"
  | .int _ => some "int"
  | .str _ => some "str"
  | .lst _ => some "list"
  | .tup _ => some "tuple"
  | .dct _ => some "dict"
  | .obj _ => none
  | .row => none
/-- isinstance(x, T), T a built-in -/
def isiF (T : String) (d : D) : Option D := match d with
  | .obj _ => some (.bl false)
  | d => (d.ty.bind fun t => kitB t T).map D.bl
/-- what is asked of the class Rule for isinstance -/
structure RuleIs (K : PySem.W.Frag) : Prop where
  cl : Cls K (He.ga K "Rule")
  ha : PySem.W.findIn K (.ref (He.ga K "Rule")) "__class__" = some (some (.builtin "object.__class__"))
  hn : PySem.W.specialIn K (.builtin "object.__class__") "__get__" = some (some (.builtin "getset_descriptor.__get__"))
  htk : PySem.W.takesIn K (.builtin "object.__class__") = some true
  hm : PySem.W.mroIn K (He.ga K "Rule") (.type "object") = some true
theorem Held.tyd {w : World} {K : PySem.W.Frag} {ra : Addr} {F H : Hp} (fh : Same F H) {v : V} {d : D} {t : String} (h : Held w K ra F H v d) (ht : d.ty = some t) (hd : ∀ l, d ≠ .dct l) : TyX K H v (.type t) := by
  cases d with
  | non =>
    cases ht
    generalize e : D.non = d at h
    cases h with
    | val r =>
      subst e
      cases r
      exact .base .non
    | @own a o _ _ _ => cases o <;> cases e
  | bl b =>
    cases ht
    rw [h.bl_]
    exact .base (.bl b)
  | int b =>
    cases ht
    rw [h.int_]
    exact .base (.int b)
  | str b =>
    cases ht
    rw [h.str_]
    exact .base (.str b)
  | lst l =>
    cases ht
    obtain ⟨a, vs, rfl, h1, h2⟩ := h.lst fh
    exact .base (.lst h1)
  | tup l =>
    cases ht
    obtain ⟨a, vs, rfl, h1, h2⟩ := h.tup fh
    rcases h1 with (h1 | ⟨o, h1⟩) | ⟨o, its, n, hk, hc, _⟩
    · exact .base (.tup h1)
    · exact .fTuple h1
    · exact .kTuple hk hc
  | dct l => exact absurd rfl (hd l)
  | _ => cases ht
/-- isinstance(x, c) for a dict -/
def rIsiD (w : World) (K : PySem.W.Frag) : List V → Hp → VK → Prop := fun xs H Q => ∃ (a : Addr) (es : List (NestedKey × V × V)) (c : V) (u : Value) (b : Bool), xs = [.ref a, c] ∧ ClsV c u ∧ DictAt w H a es ∧ PySem.W.kitOne K (.type "dict") u = some b ∧ Q (.bl b) H
theorem call_isiD : CallR X (.builtin "isinstance") (rIsiD X.w X.K) := by
  intro pins s σ H xs us Q I r h
  obtain ⟨a, es, c, u, b, rfl, k, ha, e, q⟩ := h
  obtain ⟨u1, u2, rfl, r1, r2⟩ := vals2 r
  have e2 := k.eq r2
  subst e2
  cases r1
  obtain ⟨_, _, _, _, o, _, _, ho, hc, _⟩ := inv_dictP I ha
  exact PySem.W.kia_one PySem.W.kitx_dict I.kIn ⟨o, ho, hc.1⟩ e (fun z => nomatch z) fun tk => ⟨.bl b, H, I.tok tk, rfl, q⟩
theorem isi_read {cv : V} {u : Value} {f : D → Option D} (k : ClsV cv u) (hf : ∀ d z, f d = some z → (∃ t b, d.ty = some t ∧ PySem.W.kitOne X.K (.type t) u = some b ∧ z = .bl b) ∨ (∃ l b, d = .obj l ∧ PySem.W.kitOne X.K (.ref (He.ga X.K "Rule")) u = some b ∧ z = .bl b)) (RI : RuleIs X.K)
    {σ : St} {H : Hp} {Q : VK} (h : tG TV X.w X.K W (op1M ma f) σ H Q) : tCB (fun xs H Q => rIsi X.K xs H Q ∨ rIsiD X.w X.K xs H Q) (tCons (tG TR X.w X.K W ma) (tCons (tC cv) tNil)) σ H Q := by
  obtain ⟨ra, HK, F, e, R, hw⟩ := h
  unfold op1M at hw
  refine stepG R hw fun F1 e1 x v H1 s1 R1 r1 q1 => ?_
  obtain ⟨d, hd, q2, _⟩ := R1.deref r1 q1
  unfold liftO at q2
  cases ez : f d with
  | none =>
    rw [ez] at q2
    exact q2.elim
  | some z =>
    rw [ez] at q2
    rcases hf d z ez with ⟨t, b, h1, h2, rfl⟩ | ⟨l, b, rfl, h2, rfl⟩
    · by_cases hdc : ∃ l, d = .dct l
      · obtain ⟨l, rfl⟩ := hdc
        cases h1
        obtain ⟨a, es, da⟩ := hd.dat R1.fh
        obtain ⟨rfl, _, ha, _⟩ := da
        exact .inr ⟨a, es, cv, u, b, rfl, k, ha, h2, q2 _ F1 H1 (Same.refl F1) R1 (.bl _)⟩
      · exact .inl ⟨v, cv, .type t, u, b, rfl, k, hd.tyd R1.fh h1 (fun l z => hdc ⟨l, z⟩), h2, q2 _ F1 H1 (Same.refl F1) R1 (.bl _)⟩
    · obtain ⟨a, dx, fs, rfl, ha⟩ : ∃ a dx fs, v = .ref a ∧ H1 a = some (.ins (He.ga X.K "Rule") dx fs) := by
        generalize e : D.obj l = d at hd
        cases hd with
        | val r =>
          subst e
          cases r with
          | obj h3 _ _ => exact ⟨_, _, _, rfl, R1.fh _ _ h3⟩
        | @own a o _ _ _ => cases o <;> cases e
      exact .inl ⟨_, cv, _, u, b, rfl, k, .base (.ins ha RI.cl RI.ha RI.hn RI.htk RI.hm), h2, q2 _ F1 H1 (Same.refl F1) R1 (.bl _)⟩
theorem call_isi2 : CallR X (.builtin "isinstance") (fun xs H Q => rIsi X.K xs H Q ∨ rIsiD X.w X.K xs H Q) := CallR.or' call_isi call_isiD
/-- isinstance(x, T) -/
theorem pm_isi {T : Str} {n : String} {p p2 : Pos} (hm : X.mg "isinstance" = none) (hv : bootBuiltins "isinstance" = some (.builtin "isinstance")) (hmT : X.mg T = none) (hvT : bootBuiltins T = some (.type n)) (RI : RuleIs X.K) (ho : PySem.W.kitOne X.K (.ref (He.ga X.K "Rule")) (.type n) = some false)
    (ha : PMR X W a ma) (hg : Gl X "isinstance" := by rfl) (hgT : Gl X T := by rfl) (hn : T ≠ "__name__" := by decide) (hd : (T == ("__debug__" : Str)) = false := by decide)
    (hse : starEach [a, .Name T p2] X.env = (false, eval a X.env) :: starEach [.Name T p2] X.env := by rfl) : PM X W (.Call (.Name "isinstance" p) [a, .Name T p2] [] pos) (op1M ma (isiF n)) := by
  refine PE.weaken (pe_callB call_isi2 hg hm hv (pa_cons ha (pa_cons (pe_bltn (v := .ty n) hgT hmT hvT rfl hn hd) pa_nil rfl) hse) (by decide) (by decide) hse rfl) fun σ H Q h => isi_read (.ty n) (fun d z e => ?_) RI h
  by_cases k : ∃ l, d = .obj l
  · obtain ⟨l, rfl⟩ := k
    cases e
    exact .inr ⟨l, false, rfl, ho, rfl⟩
  · have e2 : (d.ty.bind fun t => kitB t n).map D.bl = some z := by
      cases d with
      | obj l => exact absurd ⟨l, rfl⟩ k
      | _ => exact e
    cases ht : d.ty with
    | none =>
      rw [ht] at e2
      cases e2
    | some t =>
      rw [ht] at e2
      have e3 : (kitB t n).map D.bl = some z := e2
      cases hk : kitB t n with
      | none =>
        rw [hk] at e3
        cases e3
      | some b =>
        rw [hk] at e3
        cases e3
        exact .inl ⟨t, b, rfl, kit_ty hk, rfl⟩
/-- isinstance(x, Rule) -/
def isRuleF (d : D) : Option D := match d with
  | .obj _ => some (.bl true)
  | .row => none
  | _ => some (.bl false)
theorem pm_isRule {p p2 : Pos} (hm : X.mg "isinstance" = none) (hv : bootBuiltins "isinstance" = some (.builtin "isinstance")) (hmT : X.mg "Rule" = some (.ref (He.ga X.K "Rule"))) (RI : RuleIs X.K) (ho : PySem.W.kitOne X.K (.ref (He.ga X.K "Rule")) (.ref (He.ga X.K "Rule")) = some true)
    (hf : ∀ t ∈ ["NoneType", "bool", "int", "str", "list", "tuple", "dict"], PySem.W.kitOne X.K (.type t) (.ref (He.ga X.K "Rule")) = some false)
    (ha : PMR X W a ma) (hg : Gl X "isinstance" := by rfl) (hgT : Gl X "Rule" := by rfl)
    (hse : starEach [a, .Name "Rule" p2] X.env = (false, eval a X.env) :: starEach [.Name "Rule" p2] X.env := by rfl) : PM X W (.Call (.Name "isinstance" p) [a, .Name "Rule" p2] [] pos) (op1M ma isRuleF) := by
  refine PE.weaken (pe_callB call_isi2 hg hm hv (pa_cons ha (pa_cons (pe_glob (v := .ref _) hgT hmT rfl (by decide)) pa_nil rfl) hse) (by decide) (by decide) hse rfl) fun σ H Q h => isi_read (.own _) (fun d z e => ?_) RI h
  cases d with
  | obj l =>
    cases e
    exact .inr ⟨l, true, rfl, ho, rfl⟩
  | row => cases e
  | _ =>
    cases e
    exact .inl ⟨_, false, rfl, hf _ (by simp), rfl⟩

/-! ### is None -/
def D.isN : D → Bool
  | .non => true
  | _ => false
def isNF (d : D) : Option D := some (.bl d.isN)
def notNF (d : D) : Option D := some (.bl (!d.isN))
theorem Held.non_iff {w : World} {K : PySem.W.Frag} {ra : Addr} {F H : Hp} {v : V} {d : D} (h : Held w K ra F H v d) : decide (v = .non) = d.isN := by
  cases h with
  | val r => cases r <;> rfl
  | @own a o _ _ _ => cases o <;> rfl
theorem isn_read {r : V → Hp → VK → Prop} {f : D → Option D} {te : TE} (hs : ∀ (ra : Addr) (HK : Kp) (F : Hp) (e : Env) (σ : St) (H : Hp) (x : V) (d z : D) (Q : VK), Rel X.w X.K ra HK F e σ H → Held X.w X.K ra F H x d → f d = some z → okG TV X.w X.K ra HK F σ Q z e → r x H Q)
    {σ : St} {H : Hp} {Q : VK} (h : tG TV X.w X.K W (op1M ma f) σ H Q) : tG TR X.w X.K W ma σ H fun x H1 => r x H1 Q := by
  obtain ⟨ra, HK, F, e, R, hw⟩ := h
  unfold op1M at hw
  refine stepG R hw fun F1 e1 x v H1 s1 R1 r1 q1 => ?_
  obtain ⟨d, hd, q2, _⟩ := R1.deref r1 q1
  unfold liftO at q2
  cases ez : f d with
  | none =>
    rw [ez] at q2
    exact q2.elim
  | some z =>
    rw [ez] at q2
    exact hs ra HK F1 e1 σ H1 v d z Q R1 hd ez q2
theorem notN_read {σ : St} {H : Hp} {Q : VK} (h : tG TV X.w X.K W (op1M ma notNF) σ H Q) : tNotN (tG TR X.w X.K W ma) σ H Q :=
  isn_read (te := fun _ _ _ => False) (r := fun x H1 Q => Q (.bl (!decide (x = .non))) H1) (fun ra HK F e σ H x d z Q R hd ez q => by
    cases ez
    show Q _ H
    rw [hd.non_iff]
    exact q _ F H (Same.refl F) R (.bl _)) h
theorem pmt_notN {j p2} (ha : PMR X W a ma) : PMT X W (.Compare a [.IsNot] [.Constant .none j p2] pos) (testM (op1M ma notNF)) := PT.weaken (pt_cmp (pc_notN ha) rfl) fun σ H Q h => by
  obtain ⟨ra, HK, F, e, R, h3⟩ := test_read h
  exact notN_read ⟨ra, HK, F, e, R, h3⟩

/-! ### and, or, not, if -/
variable {rest : List Expr}
def andT (m n : M Bool) : M Bool := bindM m fun c => if c = true then n else pureM false
def orT (m n : M Bool) : M Bool := bindM m fun c => if c = true then pureM true else n
def notT (m : M Bool) : M Bool := bindM m fun c => pureM (!c)
theorem pmw_and1 {m : M Bool} (ha : PMT X W a m) : PMW X W (.BoolOp .And [a] pos) m := pw_and1 ha
theorem pmw_or1 {m : M Bool} (ha : PMT X W a m) : PMW X W (.BoolOp .Or [a] pos) m := pw_or1 ha
theorem pmw_and {m n : M Bool} (ha : PMT X W a m) (hb : PMW X W (.BoolOp .And (b :: rest) pos) n) : PMW X W (.BoolOp .And (a :: b :: rest) pos) (andT m n) := by
  refine PW.weaken (pw_and ha hb) ?_
  rintro σ H Q ⟨ra, HK, F, e, R, hw⟩
  unfold andT at hw
  refine stepG R hw fun F1 e1 x v H1 s1 R1 r1 q1 => ?_
  cases (show v = x from r1)
  cases x with
  | true => exact iteT (last R1 q1)
  | false => exact iteF (q1 _ F1 H1 (Same.refl F1) R1 rfl)
theorem pmw_or {m n : M Bool} (ha : PMT X W a m) (hb : PMW X W (.BoolOp .Or (b :: rest) pos) n) : PMW X W (.BoolOp .Or (a :: b :: rest) pos) (orT m n) := by
  refine PW.weaken (pw_or ha hb) ?_
  rintro σ H Q ⟨ra, HK, F, e, R, hw⟩
  unfold orT at hw
  refine stepG R hw fun F1 e1 x v H1 s1 R1 r1 q1 => ?_
  cases (show v = x from r1)
  cases x with
  | true => exact iteT (q1 _ F1 H1 (Same.refl F1) R1 rfl)
  | false => exact iteF (last R1 q1)
theorem pmt_w {e : Expr} {m : M Bool} (h : PMW X W e m) : PMT X W e m := PW.pt h
theorem pmt_not {m : M Bool} (ha : PMT X W a m) : PMT X W (.UnaryOp .Not a pos) (notT m) := by
  refine PT.weaken (pt_not ha) ?_
  rintro σ H Q ⟨ra, HK, F, e, R, hw⟩
  unfold notT at hw
  refine stepG R hw fun F1 e1 x v H1 s1 R1 r1 q1 => ?_
  cases (show v = x from r1)
  exact q1 _ F1 H1 (Same.refl F1) R1 rfl
/-- as values -/
def andV (m n : M D) : M D := bindM m fun d => match d with
  | .bl c => if c = true then n else pureM (.bl false)
  | _ => errM
def orV (m n : M D) : M D := bindM m fun d => match d with
  | .bl c => if c = true then pureM (.bl true) else n
  | _ => errM
def notV (m : M D) : M D := bindM m fun d => match d with
  | .bl c => pureM (.bl (!c))
  | _ => errM
theorem pm_one {op} {m : M D} (h : PM X W a m) : PM X W (.BoolOp op [a] pos) m := pe_one h
theorem pm_and {m n : M D} (ha : PM X W a m) (hb : PM X W (.BoolOp .And (b :: rest) pos) n) : PM X W (.BoolOp .And (a :: b :: rest) pos) (andV m n) := by
  refine PE.weaken (pe_and ha hb) ?_
  rintro σ H Q ⟨ra, HK, F, e, R, hw⟩
  unfold andV at hw
  refine stepG R hw fun F1 e1 x v H1 s1 R1 r1 q1 => ?_
  cases x with
  | bl c =>
    cases r1
    refine ⟨c, rfl, ?_⟩
    cases c with
    | true => exact iteT (last R1 q1)
    | false => exact iteF (q1 _ F1 H1 (Same.refl F1) R1 (.bl _))
  | _ => exact q1.elim
theorem pm_or {m n : M D} (ha : PM X W a m) (hb : PM X W (.BoolOp .Or (b :: rest) pos) n) : PM X W (.BoolOp .Or (a :: b :: rest) pos) (orV m n) := by
  refine PE.weaken (pe_or ha hb) ?_
  rintro σ H Q ⟨ra, HK, F, e, R, hw⟩
  unfold orV at hw
  refine stepG R hw fun F1 e1 x v H1 s1 R1 r1 q1 => ?_
  cases x with
  | bl c =>
    cases r1
    refine ⟨c, rfl, ?_⟩
    cases c with
    | true => exact iteT (q1 _ F1 H1 (Same.refl F1) R1 (.bl _))
    | false => exact iteF (last R1 q1)
  | _ => exact q1.elim
theorem pm_not {m : M D} (ha : PM X W a m) : PM X W (.UnaryOp .Not a pos) (notV m) := by
  refine PE.weaken (pe_not ha) ?_
  rintro σ H Q ⟨ra, HK, F, e, R, hw⟩
  unfold notV at hw
  refine stepG R hw fun F1 e1 x v H1 s1 R1 r1 q1 => ?_
  cases x with
  | bl c =>
    cases r1
    exact ⟨c, rfl, q1 _ F1 H1 (Same.refl F1) R1 (.bl _)⟩
  | _ => exact q1.elim
def iteM {α : Type} (t : M Bool) (m n : M α) : M α := bindM t fun c => if c = true then m else n
theorem pm_ifExp {t : M Bool} {m n : M D} (hc : PMT X W c t) (ha : PM X W a m) (hb : PM X W b n) : PM X W (.IfExp c a b pos) (iteM t m n) := by
  refine PE.weaken (pe_ifExp hc ha hb) ?_
  rintro σ H Q ⟨ra, HK, F, e, R, hw⟩
  unfold iteM at hw
  refine stepG R hw fun F1 e1 x v H1 s1 R1 r1 q1 => ?_
  cases (show v = x from r1)
  cases x with
  | true => exact iteT (last R1 q1)
  | false => exact iteF (last R1 q1)
/-- a op b op' c, of numbers -/
def chainM (o o' : Int → Int → Bool) (m n k : M D) : M D := bindM m fun x => bindM n fun y => match x, y with
  | .int i, .int j => if o i j = true then bindM k fun z => (match z with
    | .int l => pureM (.bl (o' j l))
    | _ => errM) else pureM (.bl false)
  | _, _ => errM
theorem pm_chain {op op' : CmpOp} {o o' : Int → Int → Bool} {m n k : M D} (ho : OpR X (compareOp op) (rI0 fun i j => .bl (o i j))) (ho' : OpR X (compareOp op') (rI0 fun i j => .bl (o' i j))) (ha : PM X W a m) (hb : PM X W b n) (hc : PM X W c k)
    (hm : lastMarks [op, op'] [b, c] = false := by with_unfolding_all rfl) : PM X W (.Compare a [op, op'] [b, c] pos) (chainM o o' m n k) := by
  refine PE.weaken (pe_chain ho ho' ha hb hc hm) ?_
  rintro σ H Q ⟨ra, HK, F, e, R, hw⟩
  unfold chainM at hw
  refine stepG R hw fun F1 e1 x v H1 s1 R1 r1 q1 => ?_
  refine stepG R1 q1 fun F2 e2 y u H2 s2 R2 r2 q2 => ?_
  cases x with
  | int i =>
    cases y with
    | int j =>
      cases r1
      cases r2
      refine ⟨i, j, rfl, rfl, o i j, rfl, ?_⟩
      simp only at q2
      cases hc : o i j with
      | true =>
        rw [hc, if_pos rfl] at q2
        refine iteT (stepG R2 q2 fun F3 e3 z w' H3 s3 R3 r3 q3 => ?_)
        cases z with
        | int l =>
          cases r3
          exact ⟨j, l, rfl, rfl, q3 _ F3 H3 (Same.refl F3) R3 (.bl _)⟩
        | _ => exact q3.elim
      | false =>
        rw [hc, if_neg Bool.false_ne_true] at q2
        exact iteF (q2 _ F2 H2 (Same.refl F2) R2 (.bl _))
    | _ => exact q2.elim
  | _ => exact q2.elim

/-! ### the fields of a Rule -/
def fldF (n : Nat) (d : D) : Option D := match d with
  | .obj l => l[n]?
  | _ => none
theorem rule_lookup {f : Str} {n : Nat} (h : (["many", "wide", "rows", "low", "high"] : List Str)[n]? = some f) : ∀ {vs : List V} {v : V}, vs.length = 5 → vs[n]? = some v → (ruleF vs).lookup f = some v := by
  intro vs v hl hv
  match vs, hl with
  | [v0, v1, v2, v3, v4], _ =>
    match n, h with
    | 0, h => cases h; cases hv; rfl
    | 1, h => cases h; cases hv; rfl
    | 2, h => cases h; cases hv; rfl
    | 3, h => cases h; cases hv; rfl
    | 4, h => cases h; cases hv; rfl
theorem pm_fld {f : Str} (n : Nat) (cl : Cls X.K (He.ga X.K "Rule")) (na : NoAttr X.K (He.ga X.K "Rule") f) (h5 : (["many", "wide", "rows", "low", "high"] : List Str)[n]? = some f) (ha : PMR X W a ma) (hb : attributeBase a f X.env (eval a X.env) = eval a X.env := by rfl) : PM X W (.Attribute a f pos) (op1M ma (fldF n)) := by
  refine PE.weaken (pe_fld ha hb) fun σ H Q h => ?_
  refine isn_read (te := fun _ _ _ => False) (r := fun x H1 Q => ∃ a C dx fs v, x = .ref a ∧ H1 a = some (.ins C dx fs) ∧ Cls X.K C ∧ NoAttr X.K C f ∧ fs.lookup f = some v ∧ Q v H1) (fun ra HK F e σ H x d z Q R hd ez q => ?_) h
  cases d with
  | obj l =>
    have ez' : l[n]? = some z := ez
    generalize e : D.obj l = d at hd
    cases hd with
    | val r =>
      subst e
      cases r with
      | @obj a dx vs ds h1 h2 h3 =>
        obtain ⟨v, g1, g2⟩ := h3.get ez'
        exact ⟨_, _, _, _, v, rfl, R.fh _ _ h1, cl, na, rule_lookup h5 h2 g1, q v F H (Same.refl F) R g2⟩
    | @own a o _ _ _ => cases o <;> cases e
  | _ => cases ez
end
end Mi

set_option Elab.async false
set_option linter.all false
set_option maxRecDepth 100000
set_option maxHeartbeats 4000000
/-! Mi, part J: statements, targets, while. -/
namespace Mi
open PySem PySem.Spec PyProof.Rows L2
def setM (i : Nat) (s : Slot) : M Unit := fun e => if i < e.sl.length then .ok () { e with sl := e.sl.set i s } else .err
inductive Fl where
  | nx | rt (d : D) | bk | ct
section
variable {w : World} {K : PySem.W.Frag} {ra : Addr} {HK : Kp} {F H : Hp} {e : Env} {σ : St}
theorem wp_setM {β : Type} {i : Nat} {s : Slot} {g : Unit → M β} {A : β → Env → Prop} {B : Exn → Env → Prop} (h : (bindM (setM i s) g e).wp A B) : i < e.sl.length ∧ (g () { e with sl := e.sl.set i s }).wp A B := by
  unfold bindM setM at h
  by_cases c : i < e.sl.length
  · simp only [if_pos c] at h
    exact ⟨c, h⟩
  · simp only [if_neg c] at h
    exact h.elim
theorem Rel.setVal (R : Rel w K ra HK F e σ H) {i : Nat} (hi : i < e.sl.length) {v : V} {d : D} (r : Rep w K ra F v d) : Rel w K ra HK F { e with sl := e.sl.set i (.val d) } (σ.set i (some v)) H := by
  have hi' : i < σ.length := by rw [← R.len]; exact hi
  refine ⟨R.fh, R.kh, by rw [List.length_set, List.length_set]; exact R.len, fun j s hj => ?_, R.sep.off rfl _, R.row, R.fra, R.kra, R.pn⟩
  by_cases hj2 : i = j
  · subst hj2
    rw [List.getElem?_set_self hi] at hj
    cases hj
    exact ⟨v, by rw [List.getElem?_set_self hi'], r⟩
  · rw [List.getElem?_set_ne hj2] at hj
    rw [List.getElem?_set_ne hj2]
    exact R.sl j s hj
/-- a name gets a container of its own -/
theorem Rel.setC (R : Rel w K ra HK F e σ H) {i : Nat} (hi : i < e.sl.length) {s : Slot} {a : Addr} (ok : SlotOk w K ra HK F H (some (some (.ref a))) s) (n : ∀ p, Foot H s a p → NotIn e σ H p) : Rel w K ra HK F { e with sl := e.sl.set i s } (σ.set i (some (.ref a))) H := by
  have hi' : i < σ.length := by rw [← R.len]; exact hi
  refine ⟨R.fh, R.kh, by rw [List.length_set, List.length_set]; exact R.len, fun j t hj => ?_, R.sep.on hi' fun j s' a' p hij h c hs f => n p f j s' a' h c hs, R.row, R.fra, R.kra, R.pn⟩
  by_cases hj2 : i = j
  · subst hj2
    rw [List.getElem?_set_self hi] at hj
    cases hj
    rw [List.getElem?_set_self hi']
    exact ok
  · rw [List.getElem?_set_ne hj2] at hj
    rw [List.getElem?_set_ne hj2]
    exact R.sl j t hj
theorem Rel.setOwn (R : Rel w K ra HK F e σ H) {i : Nat} (hi : i < e.sl.length) {v : V} {o : OD} (t : TO w K ra HK σ e F H v o) : Rel w K ra HK F { e with sl := e.sl.set i (.own o) } (σ.set i (some v)) H := by
  obtain ⟨a, rfl, r, fa, ka, na, nd⟩ := t
  refine R.setC hi ⟨a, rfl, r, fa, ka, na⟩ fun p f => ?_
  rcases f with rfl | ⟨z, _⟩
  · exact nd
  · cases z
theorem Rel.setNo (R : Rel w K ra HK F e σ H) (i : Nat) (ov : Option V) : Rel w K ra HK F { e with sl := e.sl.set i .no } (σ.set i ov) H := by
  refine ⟨R.fh, R.kh, by rw [List.length_set, List.length_set]; exact R.len, fun j s hj => ?_, R.sep.off rfl _, R.row, R.fra, R.kra, R.pn⟩
  by_cases hj2 : i = j
  · subst hj2
    by_cases hi : i < e.sl.length
    · rw [List.getElem?_set_self hi] at hj
      cases hj
      trivial
    · rw [List.getElem?_eq_none (by rw [List.length_set]; omega)] at hj
      cases hj
  · rw [List.getElem?_set_ne hj2] at hj
    rw [List.getElem?_set_ne hj2]
    exact R.sl j s hj
end
/-! ### the judgement of statements -/
def okS (w : World) (K : PySem.W.Frag) (ra : Addr) (HK : Kp) (F : Hp) (D' : Ends) : Fl → Env → Prop := fun fl e' => ∀ σ' F' H', Same F F' → Rel w K ra HK F' e' σ' H' → (match fl with
  | .nx => D'.nx σ' H'
  | .bk => D'.bk σ' H'
  | .ct => D'.ct σ' H'
  | .rt d => ∀ v, Rep w K ra F' v d → D'.rt v H')
def tS (w : World) (K : PySem.W.Frag) (W : WX) (m : M Fl) : TS := fun D' σ H => ∃ ra HK F e, Rel w K ra HK F e σ H ∧ (m e).wp (okS w K ra HK F D') (exW w K ra HK F W)
theorem okS_mono {w : World} {K : PySem.W.Frag} {ra : Addr} {HK : Kp} {F F1 : Hp} {D' : Ends} (s : Same F F1) {fl : Fl} {e' : Env} (h : okS w K ra HK F D' fl e') : okS w K ra HK F1 D' fl e' := fun σ' F' H' s' => h σ' F' H' (s.trans s')
def PSM (X : Cx) (W : WX) (st : Stmt) (m : M Fl) : Prop := PS X st (tS X.w X.K W m)
def PSsM (X : Cx) (W : WX) (st : List Stmt) (m : M Fl) : Prop := PSs X st (tS X.w X.K W m)
theorem stepS {β α : Type} {T : RT β α} {w : World} {K : PySem.W.Frag} {ra : Addr} {HK : Kp} {F H : Hp} {W : WX} {e : Env} {σ : St} {m : M α} {g : α → M Fl} {D' : Ends} {Q : β → Hp → Prop} (R : Rel w K ra HK F e σ H)
    (h : (bindM m g e).wp (okS w K ra HK F D') (exW w K ra HK F W))
    (k : ∀ F' e' a b H', Same F F' → Rel w K ra HK F' e' σ H' → T w K ra HK σ e' F' H' b a → (g a e').wp (okS w K ra HK F' D') (exW w K ra HK F' W) → Q b H') : tG T w K W m σ H Q :=
  step (A := fun F => okS w K ra HK F D') R h (fun F' c e' s q => okS_mono s q) k
section
variable {X : Cx} {W : WX} {st : Stmt} {rest : List Stmt} {m n : M Fl} {e : Expr} {pos : Pos}
/-! ### blocks -/
def nxM : M Fl := pureM .nx
def seqM (m n : M Fl) : M Fl := bindM m fun fl => match fl with
  | .nx => n
  | fl => pureM fl
theorem pssm_nil : PSsM X W [] nxM := PSs.weaken pss_nil fun D' σ H h => by
  obtain ⟨ra, HK, F, e, R, h⟩ := h
  exact h σ F H (Same.refl F) R
theorem pssm_one (h : PSM X W st m) : PSsM X W [st] m := pss_one h
theorem pssm_cons (h1 : PSM X W st m) (h2 : PSsM X W rest n) : PSsM X W (st :: rest) (seqM m n) := by
  refine PSs.weaken (pss_cons h1 h2) ?_
  rintro D' σ H ⟨ra, HK, F, e, R, h⟩
  unfold seqM at h
  refine ⟨ra, HK, F, e, R, wp_mono (wp_bind.mp h) (fun fl e' q σ' F' H' s R' => ?_) fun _ _ q => q⟩
  cases fl with
  | nx => exact ⟨ra, HK, F', e', R', wp_mono q (fun _ _ z => okS_mono s z) fun _ _ z => exW_mono s z⟩
  | bk => exact q σ' F' H' s R'
  | ct => exact q σ' F' H' s R'
  | rt d => exact q σ' F' H' s R'
def retM (m : M D) : M Fl := bindM m fun d => pureM (.rt d)
theorem psm_ret {m : M D} (h : PM X W e m) : PSM X W (.Return (some e) pos) (retM m) := by
  refine PS.weaken (ps_ret h) ?_
  rintro D' σ H ⟨ra, HK, F, e, R, h⟩
  unfold retM at h
  refine stepS R h fun F1 e1 d v H1 s1 R1 r1 q1 => ?_
  exact q1 σ F1 H1 (Same.refl F1) R1 v r1
def dropM {α : Type} (m : M α) : M Fl := bindM m fun _ => pureM .nx
theorem psm_expr {m : M D} (h : PM X W e m) (hs : swapsWith e none pos.line X.env = pure false := by rfl) : PSM X W (.Expr e pos) (dropM m) := by
  refine PS.weaken (ps_expr h hs) ?_
  rintro D' σ H ⟨ra, HK, F, e, R, h⟩
  unfold dropM at h
  refine stepS R h fun F1 e1 d v H1 s1 R1 r1 q1 => ?_
  exact q1 σ F1 H1 (Same.refl F1) R1
theorem psm_if {c : Expr} {a b : List Stmt} {t : M Bool} {m n : M Fl} (hc : PMT X W c t) (ha : PSsM X W a m) (hb : PSsM X W b n) : PSM X W (.If c a b pos) (iteM t m n) := by
  refine PS.weaken (ps_if hc ha hb) ?_
  rintro D' σ H ⟨ra, HK, F, e, R, h⟩
  unfold iteM at h
  refine stepS R h fun F1 e1 x v H1 s1 R1 r1 q1 => ?_
  cases (show v = x from r1)
  cases x with
  | true =>
    rw [if_pos rfl] at q1
    exact iteT ⟨ra, HK, F1, e1, R1, q1⟩
  | false =>
    rw [if_neg Bool.false_ne_true] at q1
    exact iteF ⟨ra, HK, F1, e1, R1, q1⟩
/-! ### x = e -/
def asgM (i : Nat) (m : M D) : M Fl := bindM m fun d => bindM (setM i (.val d)) fun _ => pureM .nx
def asgO (i : Nat) (m : M OD) : M Fl := bindM m fun o => bindM (setM i (.own o)) fun _ => pureM .nx
theorem psm_set (i : Nat) {x : Str} {m : M D} {pos' : Pos} (he : PM X W e m) (hN : X.N.Nodup) (hi : X.N[i]? = some x := by rfl) (hx : Loc X.env.scope x := by first | exact Or.inl rfl | exact Or.inr rfl) (hs : swapsWith e (some (.Name x pos')) pos.line X.env = pure false := by rfl)
    (hf : X.fn x = true ∨ X.env.scope.names.lookup x = some .local := by first | exact .inl rfl | exact .inr rfl | assumption) : PSM X W (.Assign [.Name x pos'] e pos) (asgM i m) := by
  refine PS.weaken (ps_set hN hi hx he hs hf) ?_
  rintro D' σ H ⟨ra, HK, F, e, R, h⟩
  unfold asgM at h
  refine stepS R h fun F1 e1 d v H1 s1 R1 r1 q1 => ?_
  obtain ⟨h1, q2⟩ := wp_setM q1
  exact q2 _ F1 H1 (Same.refl F1) (R1.setVal h1 r1)
/-! ### targets -/
/-- the names but these stand -/
def SB (is : List Nat) (σ σ' : St) : Prop := σ'.length = σ.length ∧ ∀ j, j ∉ is → σ'[j]? = σ[j]?
theorem SB.refl (σ : St) : SB [] σ σ := ⟨rfl, fun _ _ => rfl⟩
theorem SB.trans {is js : List Nat} {σ σ1 σ2 : St} (a : SB is σ σ1) (b : SB js σ1 σ2) : SB (is ++ js) σ σ2 := ⟨b.1.trans a.1, fun j h => by
  rw [List.mem_append, not_or] at h
  exact (b.2 j h.2).trans (a.2 j h.1)⟩
theorem SB.wiped {is : List Nat} {σ σ' : St} (h : SB is σ σ') {vs : List Nat} (hs : ∀ i ∈ is, i ∈ vs) : wipe σ' vs = wipe σ vs := by
  apply List.ext_getElem?
  intro j
  by_cases c : j ∈ vs
  · have key : ∀ (τ : St) (us : List Nat), j ∈ us → (wipe τ us)[j]? = if j < τ.length then some none else none := by
      intro τ us
      induction us with
      | nil => intro h; cases h
      | cons u us ih =>
        intro hj
        unfold L2.wipe
        by_cases e : u = j
        · subst e
          by_cases l : u < τ.length
          · rw [if_pos l, List.getElem?_set_self (by rw [wipe_length]; exact l)]
          · rw [if_neg l, List.getElem?_eq_none (by rw [List.length_set, wipe_length]; omega)]
        · rw [List.getElem?_set_ne e]
          exact ih (by
            rcases List.mem_cons.mp hj with z | z
            · exact absurd z.symm e
            · exact z)
    rw [key _ _ c, key _ _ c, h.1]
  · rw [wipe_out c, wipe_out c]
    exact h.2 j fun z => c (hs j z)
def tT (w : World) (K : PySem.W.Frag) (is : List Nat) (g : D → M Unit) : TG := fun v σ H Q => ∃ ra HK F e d, Rel w K ra HK F e σ H ∧ Rep w K ra F v d ∧ (g d e).wp (fun _ e' => ∀ σ' F' H', SB is σ σ' → Same F F' → Rel w K ra HK F' e' σ' H' → Q σ' H') (fun _ _ => False)
def tTs (w : World) (K : PySem.W.Frag) (is : List Nat) (g : List D → M Unit) : TGs := fun v σ H Q => ∃ ra HK F e d, Rel w K ra HK F e σ H ∧ RepA w K ra F v d ∧ (g d e).wp (fun _ e' => ∀ σ' F' H', SB is σ σ' → Same F F' → Rel w K ra HK F' e' σ' H' → Q σ' H') (fun _ _ => False)
def PGM (X : Cx) (tg : Expr) (is : List Nat) (g : D → M Unit) : Prop := PG X tg (tT X.w X.K is g)
def PGsM (X : Cx) (tg : List Expr) (is : List Nat) (g : List D → M Unit) : Prop := PGs X tg (tTs X.w X.K is g)
theorem PG.weaken {tg : Expr} {t t' : TG} (h : PG X tg t) (k : ∀ v σ H Q, t' v σ H Q → t v σ H Q) : PG X tg t' := ⟨fun pins s σ H v u Q I r hw => h.run pins s σ H v u Q I r (k _ _ _ _ hw)⟩
theorem PGs.weaken {tg : List Expr} {t t' : TGs} (h : PGs X tg t) (k : ∀ v σ H Q, t' v σ H Q → t v σ H Q) : PGs X tg t' := ⟨fun pins s σ H v u Q I r hw => h.run pins s σ H v u Q I r (k _ _ _ _ hw)⟩
theorem PG.or {tg : Expr} {t t' : TG} (h : PG X tg t) (h' : PG X tg t') : PG X tg (fun v σ H Q => t v σ H Q ∨ t' v σ H Q) := ⟨fun pins s σ H v u Q I r hw => by
  rcases hw with hw | hw
  · exact h.run pins s σ H v u Q I r hw
  · exact h'.run pins s σ H v u Q I r hw⟩
def gN (i : Nat) (d : D) : M Unit := setM i (.val d)
theorem pgm_name (i : Nat) {x : Str} (hN : X.N.Nodup) (hi : X.N[i]? = some x := by rfl) (hx : Loc X.env.scope x := by first | exact Or.inl rfl | exact Or.inr rfl) (hf : X.fn x = true ∨ X.env.scope.names.lookup x = some .local := by first | exact .inl rfl | exact .inr rfl | assumption) : PGM X (.Name x pos) [i] (gN i) := by
  refine PG.weaken (pg_name hN hi hx hf) ?_
  rintro v σ H Q ⟨ra, HK, F, e, d, R, r, h⟩
  unfold gN setM at h
  by_cases c : i < e.sl.length
  · simp only [if_pos c] at h
    exact h _ F H ⟨List.length_set .., fun j hj => List.getElem?_set_ne fun z => hj (by simp [z])⟩ (Same.refl F) (R.setVal c r)
  · simp only [if_neg c] at h
    exact h.elim
def gsNil (l : List D) : M Unit := match l with
  | [] => pureM ()
  | _ => errM
def gsCons (g : D → M Unit) (gs : List D → M Unit) (l : List D) : M Unit := match l with
  | d :: ds => bindM (g d) fun _ => gs ds
  | [] => errM
theorem pgsm_nil : PGsM X [] [] gsNil := PGs.weaken pgs_nil fun v σ H Q h => by
  obtain ⟨ra, HK, F, e, d, R, r, h⟩ := h
  cases r with
  | nil => exact ⟨rfl, h σ F H (SB.refl σ) (Same.refl F) R⟩
  | cons _ _ => exact h.elim
theorem pgsm_cons {a : Expr} {es : List Expr} {is js : List Nat} {g : D → M Unit} {gs : List D → M Unit} (h1 : PGM X a is g) (h2 : PGsM X es js gs) (hs : (assignEach (a :: es) X.env).map (·.2) = assign a X.env :: (assignEach es X.env).map (·.2) := by rfl) : PGsM X (a :: es) (is ++ js) (gsCons g gs) := by
  refine PGs.weaken (pgs_cons h1 h2 hs) ?_
  rintro v σ H Q ⟨ra, HK, F, e, d, R, r, h⟩
  cases r with
  | nil => exact h.elim
  | @cons v d vs ds r1 r2 =>
    refine ⟨v, vs, rfl, ra, HK, F, e, d, R, r1, wp_mono (wp_bind.mp h) (fun _ e' q σ' F' H' b s R' => ?_) fun _ _ q => q⟩
    exact ⟨ra, HK, F', e', ds, R', RepA.mono s r2, wp_mono q (fun _ e2 z σ2 F2 H2 b2 s2 R2 => z σ2 F2 H2 (b.trans b2) (s.trans s2) R2) fun _ _ z => z⟩
def gTupM (n : Nat) (gs : List D → M Unit) (d : D) : M Unit := match d with
  | .tup l => if l.length = n then gs l else errM
  | .lst l => if l.length = n then gs l else errM
  | _ => errM
theorem pgm_tup {es : List Expr} {k : Nat} {n : Nat} {is : List Nat} {gs : List D → M Unit} (h : PGsM X es is gs) (hc : X.calm = true := by rfl) (hn : (assignEach es X.env).length = n := by rfl) (hst : (assignEach es X.env).findIdx? (·.1) = none := by rfl) : PGM X (.Tuple es k pos) is (gTupM n gs) := by
  refine PG.weaken (PG.or (pg_tup hc h hn hst) (pg_lst hc h hn hst)) ?_
  rintro v σ H Q ⟨ra, HK, F, e, d, R, r, h⟩
  cases d with
  | tup l =>
    simp only [gTupM] at h
    by_cases c : l.length = n
    · rw [if_pos c] at h
      cases r with
      | @tup a vs ds h1 h2 => exact .inl ⟨a, vs, rfl, Same.seqT R.fh h1, by rw [h2.length]; exact c, ra, HK, F, e, l, R, h2, h⟩
    · rw [if_neg c] at h
      exact h.elim
  | lst l =>
    simp only [gTupM] at h
    by_cases c : l.length = n
    · rw [if_pos c] at h
      cases r with
      | @lst a vs ds h1 h2 => exact .inr ⟨a, vs, rfl, .of (R.fh _ _ h1), by rw [h2.length]; exact c, ra, HK, F, e, l, R, h2, h⟩
    · rw [if_neg c] at h
      exact h.elim
  | _ => exact h.elim
def asgG (m : M D) (g : D → M Unit) : M Fl := bindM m fun d => bindM (g d) fun _ => pureM .nx
/-- target = e -/
theorem psm_asg {tg : Expr} {m : M D} {is : List Nat} {g : D → M Unit} (he : PM X W e m) (hg : PGM X tg is g) (hg0 : ∀ d e x e', g d e ≠ .exc x e') (hs : swapsWithSole [tg] e pos.line X.env = pure false := by rfl) (hw : swappedStores [tg] e X.env = pure none := by rfl)
    (h1 : (assignEach [tg] X.env).map (·.2) = [assign tg X.env] := by rfl) : PSM X W (.Assign [tg] e pos) (asgG m g) := by
  refine PS.weaken (ps_asg he hg hs hw h1) ?_
  rintro D' σ H ⟨ra, HK, F, e, R, h⟩
  unfold asgG at h
  refine stepS R h fun F1 e1 d v H1 s1 R1 r1 q1 => ?_
  refine ⟨ra, HK, F1, e1, d, R1, r1, ?_⟩
  have q2 := wp_bind.mp q1
  cases eg : g d e1 with
  | ok u e2 =>
    rw [eg] at q2
    exact fun σ' F' H' _ s R' => q2 σ' F' H' s R'
  | exc x e2 => exact absurd eg (hg0 _ _ _ _)
  | err =>
    rw [eg] at q2
    exact q2
theorem gN_quiet (i : Nat) : ∀ d e x e', gN i d e ≠ .exc x e' := fun d e x e' h => by
  unfold gN setM at h
  split at h <;> cases h
theorem gsNil_quiet : ∀ d e x e', gsNil d e ≠ .exc x e' := fun d e x e' h => by
  cases d <;> cases h
theorem gsCons_quiet {g : D → M Unit} {gs : List D → M Unit} (h1 : ∀ d e x e', g d e ≠ .exc x e') (h2 : ∀ d e x e', gs d e ≠ .exc x e') : ∀ d e x e', gsCons g gs d e ≠ .exc x e' := fun d e x e' h => by
  cases d with
  | nil => cases h
  | cons d ds =>
    unfold gsCons bindM at h
    simp only at h
    cases eg : g d e with
    | ok u e2 =>
      rw [eg] at h
      exact h2 _ _ _ _ h
    | exc y e2 => exact h1 _ _ _ _ eg
    | err =>
      rw [eg] at h
      cases h
theorem gTup_quiet {n : Nat} {gs : List D → M Unit} (h2 : ∀ d e x e', gs d e ≠ .exc x e') : ∀ d e x e', gTupM n gs d e ≠ .exc x e' := fun d e x e' h => by
  unfold gTupM at h
  cases d with
  | tup l =>
    simp only at h
    split at h
    · exact h2 _ _ _ _ h
    · cases h
  | lst l =>
    simp only at h
    split at h
    · exact h2 _ _ _ _ h
    · cases h
  | _ => cases h
/-! ### x += n -/
def valM (i : Nat) : M D := fun e => match e.sl[i]? with
  | some (.val d) => .ok d e
  | _ => .err
theorem wp_valM {β : Type} {i : Nat} {g : D → M β} {e : Env} {A : β → Env → Prop} {B : Exn → Env → Prop} (h : (bindM (valM i) g e).wp A B) : ∃ d, e.sl[i]? = some (.val d) ∧ (g d e).wp A B := by
  unfold bindM valM at h
  cases q : e.sl[i]? with
  | none =>
    simp only [q] at h
    exact h.elim
  | some s =>
    cases s with
    | val d =>
      simp only [q] at h
      exact ⟨d, rfl, h⟩
    | _ =>
      simp only [q] at h
      exact h.elim
def augM (i : Nat) (m : M D) (f : D → D → Option D) : M Fl := bindM (valM i) fun x => bindM m fun d => bindM (liftO (f x d)) fun z => bindM (setM i (.val z)) fun _ => pureM .nx
theorem psm_augI (i : Nat) {x : Str} {m : M D} {op : Operator} {g : Int → Int → Int} {pos' : Pos} (ho : PIp X op (ipI g)) (he : PM X W e m) (hN : X.N.Nodup) (hi : X.N[i]? = some x := by rfl) (hx : Loc X.env.scope x := by first | exact Or.inl rfl | exact Or.inr rfl)
    (hf : X.fn x = true ∨ X.env.scope.names.lookup x = some .local := by first | exact .inl rfl | exact .inr rfl | assumption) : PSM X W (.AugAssign (.Name x pos') op e pos) (augM i m (intF (fun _ _ => true) g)) := by
  refine PS.weaken (ps_aug hN hi hx he ho hf) ?_
  rintro D' σ H ⟨ra, HK, F, e, R, h⟩
  unfold augM at h
  obtain ⟨d0, q, h0⟩ := wp_valM h
  obtain ⟨v, e1, r⟩ := R.sl i _ q
  refine ⟨v, e1, ?_⟩
  refine stepS R h0 fun F1 e1' d u H1 s1 R1 r1 q1 => ?_
  cases d0 with
  | int a =>
    cases d with
    | int b =>
      cases r
      cases r1
      refine ⟨a, b, rfl, rfl, ?_⟩
      have q2 : (bindM (setM i (.val (.int (g a b)))) (fun _ => pureM Fl.nx) e1').wp _ _ := q1
      obtain ⟨hl, q3⟩ := wp_setM q2
      exact q3 _ F1 H1 (Same.refl F1) (R1.setVal hl (.int _))
    | _ => exact q1.elim
  | _ => exact q1.elim
end
end Mi

set_option Elab.async false
set_option linter.all false
set_option maxRecDepth 100000
set_option maxHeartbeats 4000000
/-! Mi, part K: while, for, what is walked. -/
namespace Mi
open PySem PySem.Spec PyProof.Rows L2
/-! ### while -/
section
variable {X : Cx} {W : WX} {pos : Pos}
/-! ### for -/
def forM' (g : D → M Unit) (b : M Fl) : List D → M Fl
  | [] => nxM
  | d :: ds => bindM (g d) fun _ => bindM b fun fl => match fl with
    | .nx => forM' g b ds
    | .ct => forM' g b ds
    | .bk => pureM .nx
    | .rt d => pureM (.rt d)
/-- what is walked: these things, one after another (a tuple may be made for each) -/
structure ItOk (w : World) (K : PySem.W.Frag) (ra : Addr) (F0 : Hp) (J : It) (ds : List D) : Prop where
  go : ∀ (i : Nat) (F H : Hp), Same F0 F → Same F H → i < ds.length → J.go i H
  stop : ∀ (i : Nat) (F H : Hp), Same F0 F → Same F H → i = ds.length → J.stop i H
  yld : ∀ (i : Nat) (F H : Hp) (x : V) (H' : Hp), Same F0 F → Same F H → i < ds.length → J.yld i H x H' → ∃ d, ds[i]? = some d ∧
    ((H' = H ∧ Rep w K ra F0 x d) ∨ ∃ p o, H p = none ∧ H' = upd H p o ∧ ∀ F1, Same F0 F1 → F1 p = some o → Rep w K ra F1 x d)
def tI (w : World) (K : PySem.W.Frag) (W : WX) (m : M (List D)) : TI := fun σ H Rr => ∃ ra HK F e, Rel w K ra HK F e σ H ∧
  (m e).wp (fun ds e' => ∀ J F' H', Same F F' → Rel w K ra HK F' e' σ H' → ItOk w K ra F' J ds → Rr J H') (exW w K ra HK F W)
def PIM (X : Cx) (W : WX) (tg iter : Expr) (m : M (List D)) : Prop := PI X tg iter (tI X.w X.K W m)
theorem PI.weaken {tg it : Expr} {t t' : TI} (h : PI X tg it t) (k : ∀ σ H Q, t' σ H Q → t σ H Q) : PI X tg it t' := ⟨fun pins s σ H Rr I hw => h.run pins s σ H Rr I (k _ _ _ hw)⟩
/-- a turn's value, as the mirror has it -/
theorem Rel.turn {w : World} {K : PySem.W.Frag} {ra : Addr} {HK : Kp} {F0 F H H' : Hp} {e : Env} {σ : St} {J : It} {ds : List D} (R : Rel w K ra HK F e σ H) (ok : ItOk w K ra F0 J ds) (s : Same F0 F) {i : Nat} (hi : i < ds.length) {x : V} (y : J.yld i H x H') :
    ∃ d F', ds[i]? = some d ∧ Same F F' ∧ Rel w K ra HK F' e σ H' ∧ Rep w K ra F' x d := by
  obtain ⟨d, hd, ⟨rfl, r⟩ | ⟨p, o, hp, rfl, k⟩⟩ := ok.yld i F H x H' s R.fh hi y
  · exact ⟨d, F, hd, Same.refl F, R, r.mono s⟩
  · obtain ⟨R2, s2⟩ := R.alloc hp o
    exact ⟨d, _, hd, s2, R2, k _ (s.trans s2) upd_same⟩
def forL (mi : M (List D)) (g : D → M Unit) (b : M Fl) : M Fl := bindM mi fun ds => forM' g b ds
theorem drop_cons {α : Type} {l : List α} {i : Nat} {a : α} (h : l[i]? = some a) : l.drop i = a :: l.drop (i + 1) := by
  obtain ⟨hi, e⟩ := List.getElem?_eq_some_iff.mp h
  rw [List.drop_eq_getElem_cons hi, e]
theorem psm_for {tg iter : Expr} {body : List Stmt} {mi : M (List D)} {is : List Nat} {g : D → M Unit} {b : M Fl} (hp : PassesOwn (model X.prog X.w) X.A X.env X.xe) (hc : X.calm = true) (hi : PIM X W tg iter mi) (hg : PGM X tg is g) (hg0 : ∀ d e x e', g d e ≠ .exc x e') (hb : PSsM X W body b)
    (hs : ∀ x, foldedSetIterable iter X.env x = pure x := by intro _; rfl) : PSM X W (.For tg iter body [] pos) (forL mi g b) := by
  refine PS.weaken (ps_for hp hc hi hg hb hs) ?_
  rintro D' σ H ⟨ra, HK, F, e, R, h⟩
  unfold forL at h
  refine ⟨ra, HK, F, e, R, wp_mono (wp_bind.mp h) (fun ds e' q J F0 H1 s R1 ok => ?_) fun _ _ q => q⟩
  refine ⟨fun i m σ H => m = ds.length - i ∧ i ≤ ds.length ∧ ∃ F e, Same F0 F ∧ Rel X.w X.K ra HK F e σ H ∧ (forM' g b (ds.drop i) e).wp (okS X.w X.K ra HK F D') (exW X.w X.K ra HK F W),
    ⟨ds.length, rfl, Nat.zero_le _, F0, e', Same.refl F0, R1, wp_mono q (fun _ _ z => okS_mono s z) fun _ _ z => exW_mono s z⟩, ?_⟩
  rintro i m σ2 H2 ⟨rfl, hil, F2, e2, s2, R2, h2⟩
  by_cases hlt : i < ds.length
  · refine .inr ⟨ok.go i F2 H2 s2 R2.fh hlt, fun σ' H' => ∃ F e, Same F0 F ∧ Rel X.w X.K ra HK F e σ' H' ∧ (forM' g b (ds.drop (i + 1)) e).wp (okS X.w X.K ra HK F D') (exW X.w X.K ra HK F W), fun σ' H' z => ⟨ds.length - (i + 1), by omega, rfl, hlt, z⟩, fun x H3 y => ?_⟩
    obtain ⟨d, F3, hd, s3, R3, r3⟩ := R2.turn ok s2 hlt y
    rw [drop_cons hd] at h2
    have h3 : (bindM (g d) (fun _ => bindM b fun fl => match fl with
      | .nx => forM' g b (ds.drop (i + 1))
      | .ct => forM' g b (ds.drop (i + 1))
      | .bk => pureM .nx
      | .rt d => pureM (.rt d)) e2).wp (okS X.w X.K ra HK F2 D') (exW X.w X.K ra HK F2 W) := h2
    have h4 := wp_bind.mp h3
    refine ⟨ra, HK, F3, e2, d, R3, r3, ?_⟩
    cases eg : g d e2 with
    | exc x e3 => exact absurd eg (hg0 _ _ _ _)
    | err =>
      rw [eg] at h4
      exact h4
    | ok u e3 =>
      rw [eg] at h4
      intro σ4 F4 H4 _ s4 R4
      refine ⟨ra, HK, F4, e3, R4, wp_mono (wp_bind.mp h4) (fun fl e5 q5 σ5 F5 H5 s5 R5 => ?_) fun _ _ q5 => exW_mono (s3.trans s4) q5⟩
      have st : Same F2 F5 := (s3.trans s4).trans s5
      cases fl with
      | nx => exact ⟨F5, e5, s2.trans st, R5, wp_mono q5 (fun _ _ z => okS_mono st z) fun _ _ z => exW_mono st z⟩
      | ct => exact ⟨F5, e5, s2.trans st, R5, wp_mono q5 (fun _ _ z => okS_mono st z) fun _ _ z => exW_mono st z⟩
      | bk => exact q5 σ5 F5 H5 st R5
      | rt d => exact q5 σ5 F5 H5 st R5
  · have e : i = ds.length := by omega
    subst e
    rw [List.drop_length] at h2
    exact .inl ⟨ok.stop _ F2 H2 s2 R2.fh rfl, h2 σ2 F2 H2 (Same.refl F2) R2⟩
/-! ### what is walked: lists, tuples -/
theorem itok_list {w : World} {K : PySem.W.Frag} {ra : Addr} {F : Hp} {a : Addr} {vs : List V} {ds : List D} (h : F a = some (.lst vs)) (r : RepA w K ra F vs ds) : ItOk w K ra F (Itl K a) ds where
  go := fun i F1 H s1 s2 hi => by
    obtain ⟨v, hv, _⟩ := r.get (List.getElem?_eq_getElem hi)
    exact ⟨vs, v, .of (s2 _ _ (s1 _ _ h)), hv⟩
  stop := fun i F1 H s1 s2 hi => ⟨vs, .of (s2 _ _ (s1 _ _ h)), by rw [r.length, hi]; exact Nat.le_refl _⟩
  yld := fun i F1 H x H' s1 s2 hi y => by
    obtain ⟨e, k⟩ := y
    have hx := k vs (.of (s2 _ _ (s1 _ _ h)))
    obtain ⟨d, hd, rd⟩ := r.get' hx
    exact ⟨d, hd, .inl ⟨e, rd⟩⟩
theorem itok_tup {w : World} {K : PySem.W.Frag} {ra : Addr} {F : Hp} {a : Addr} {vs : List V} {ds : List D} (h : SqT K F a vs) (r : RepA w K ra F vs ds) : ItOk w K ra F (Itt K a) ds where
  go := fun i F1 H s1 s2 hi => by
    obtain ⟨v, hv, _⟩ := r.get (List.getElem?_eq_getElem hi)
    exact ⟨vs, v, Same.seqT s2 (Same.seqT s1 h), hv⟩
  stop := fun i F1 H s1 s2 hi => ⟨vs, Same.seqT s2 (Same.seqT s1 h), by rw [r.length, hi]; exact Nat.le_refl _⟩
  yld := fun i F1 H x H' s1 s2 hi y => by
    obtain ⟨e, k⟩ := y
    have hx := k vs (Same.seqT s2 (Same.seqT s1 h))
    obtain ⟨d, hd, rd⟩ := r.get' hx
    exact ⟨d, hd, .inl ⟨e, rd⟩⟩
theorem PI.or {tg it : Expr} {t t' : TI} (h : PI X tg it t) (h' : PI X tg it t') : PI X tg it (fun σ H Q => t σ H Q ∨ t' σ H Q) := ⟨fun pins s σ H Rr I hw => by
  rcases hw with hw | hw
  · exact h.run pins s σ H Rr I hw
  · exact h'.run pins s σ H Rr I hw⟩
end
end Mi

set_option Elab.async false
set_option linter.all false
set_option maxRecDepth 100000
set_option maxHeartbeats 4000000
/-! Mi, part L: walks of dicts, enumerate, zip, range; the library's walks as turns. -/
namespace PySem
open Sem (wp)
open AutoSeq1 (wpAny_loadPart')
theorem meets_enumerate_newB1 {v : Value} {o : Obj} {H : Heap → Prop} (B : Begins v o H) :
    Meets (Builtin.«enumerate.__new__» ⟨[.type "enumerate", v], []⟩) (fun _ R s => H s.heap ∧
      R (.ok (.ret (.ref (s.heap.push o).objs.size))) { s with heap := (s.heap.push o).push { cls := .type "enumerate", data := .fields #[.none, .bool false, .ref s.heap.objs.size, rawInt 0, .none, .none] } }) :=
  .of_wp fun prog w A R s h => by
    obtain ⟨hp, g, d, tk, os⟩ := s; obtain ⟨h1, h⟩ := h
    have hsub := sub_enumerate
    have q1 : ∀ {A' : Around} {E : Value → Shared → Prop} {Q : Value → Shared → Prop}, Q (.ref hp.objs.size) ⟨hp.push o, g, d, tk, os⟩ → wpAny (model prog w) A' (pyIter v) Q E ⟨hp, g, d, tk, os⟩ :=
      fun q => B.iter prog w _ _ ⟨hp, g, d, tk, os⟩ _ h1 q
    wp_walk using q1
    refine wpAny_stack_any fun st => wpAny_pure ?_
    split
    · rename_i c _ _ _ _ _
      cases (c == Value.type "enumerate")
      · wp_walk using q1
        exact ⟨_, rfl, h⟩
      · wp_walk using q1
        exact ⟨_, rfl, h⟩
    · wp_walk using q1
      exact ⟨_, rfl, h⟩
theorem enum_begins1 {prog : Program} {w : World} {A : Around} {E : Value → Shared → Prop} {s : Shared} {v : Value} {o : Obj} {H : Heap → Prop} {Q : Value → Shared → Prop} (B : Begins v o H) (h1 : H s.heap)
    (h : ∀ h', IsEnum h' (s.heap.objs.size + 1) s.heap.objs.size 0 .none → h'.get? s.heap.objs.size = some o → h'.objs.size = s.heap.objs.size + 2 →
      (∀ b o, s.heap.get? b = some o → h'.get? b = some o) → Q (.ref (s.heap.objs.size + 1)) { s with heap := h' }) :
    wpAny (model prog w) A (call (.type "enumerate") [v]) Q E s := by
  refine callType_new F.called_enumerate (by decide) (F.typeCall_enumerate_1 _) (F.newCall_enumerate_1 _) (fun obj => F.args_object_init_2 obj _) F.entry_enumerate_new
    (meets_enumerate_newB1 B) ⟨h1, ?_⟩
  have hz : (s.heap.push o).objs.size = s.heap.objs.size + 1 := Heap.size_push ..
  show _ ∧ _
  rw [hz]
  have he : IsEnum ((s.heap.push o).push { cls := .type "enumerate", data := .fields #[.none, .bool false, .ref s.heap.objs.size, rawInt 0, .none, .none] }) (s.heap.objs.size + 1) s.heap.objs.size 0 .none := by
    have := Heap.get?_push_size (s.heap.push o) (o := { cls := .type "enumerate", data := .fields #[.none, .bool false, .ref s.heap.objs.size, rawInt 0, .none, .none] }) rfl
    rw [hz] at this; exact this
  refine ⟨⟨_, he, rfl⟩, h _ he (Heap.get?_push_of_some _ (Heap.get?_push_size _ B.free)) (by rw [Heap.size_push, hz]) fun b o x => Heap.get?_push_of_some _ (Heap.get?_push_of_some _ x)⟩
end PySem
namespace Mi
open PySem PySem.Spec PyProof.Rows L2

/-! ### the library's walks as turns -/
/-- things that stand: x i is yielded at turn i -/
def ItP (HS : Hp → Prop) (n : Nat) (x : Nat → V → Prop) : It := ⟨fun i H => HS H ∧ i < n, fun i H v H' => H' = H ∧ x i v, fun i H => HS H ∧ i = n⟩
/-- a new pair at each turn -/
def It2 (HS : Hp → Prop) (n : Nat) (p : Nat → V → V → Prop) : It := ⟨fun i H => HS H ∧ i < n, fun i H v H' => ∃ T v1 v2, v = .ref T ∧ H T = none ∧ H' = upd H T (.tup [v1, v2]) ∧ p i v1 v2, fun i H => HS H ∧ i = n⟩
section
variable {P : Program} {w : World} {K : PySem.W.Frag} {tg : Expr} {it : Addr} {fpT fp wr : List Addr} {n : Nat} {γ : Type} {sz : γ → Nat} {Y : γ → Nat → Heap → Value → Heap → Prop} {St : γ → Nat → Heap → Prop} {StI : Nat → Heap → Prop} {Src : γ → Heap → Prop} {HS : Hp → Prop}
theorem turn_plain {x : Nat → V → Prop} (hself : ∀ (A : Around) (i : Nat) (s : Shared) (Q : Value → Shared → Prop) (E : Value → Shared → Prop), StI i s.heap → Q (.ref it) s → wpAny (model P w) A (pyIter (.ref it)) Q E s) (hit : it ∈ fpT) (hsub : ∀ b ∈ wr, b ∈ fpT) (G : ∀ (A : Around) (c : γ), A.handled = none → GoesN P w A tg it fp wr (sz c) (Y c) (St c)) (hSt : ∀ c i h, St c i h ↔ StI i h ∧ Src c h)
    (hkeep : ∀ i h h', StI i h → (∀ b ∈ fpT, ∀ o, h.get? b = some o → h'.get? b = some o) → StI i h') (hobj : ∀ i h, StI i h → ∀ b ∈ fpT, ∃ o, h.get? b = some o ∧ ∀ v, o.data ≠ .cell v)
    (hsrc : ∀ (X : Cx), X.prog = P → X.w = w → X.K = K → ∀ (pins : List (Addr × Obj)) (s : Shared) (σ : L2.St) (H : Hp), Inv X pins σ H s → HS H → ∃ c, Src c s.heap ∧ sz c = n ∧ ∀ i v h', i < n → Y c i s.heap v h' → ∃ y, RelV y v ∧ x i y) :
    Turn P w K tg (ItP HS n x) fpT it StI where
  mem := hit
  obj := hobj
  keep := hkeep
  item := by
    intro X hP hw hK hc i pins s σ H E I hf st hg
    obtain ⟨hs, hi⟩ := hg
    obtain ⟨c, sc, ec, hy⟩ := hsrc X hP hw hK pins s σ H I hs
    subst hP hw hK
    refine (G X.A c (I.ok.hd hc)).goes i s (fun v s2 => ∃ x_1 H', Inv X pins σ H' s2 ∧ RelV x_1 v ∧ (ItP HS n x).yld i H x_1 H' ∧ StI (i + 1) s2.heap ∧ ∀ b ∈ fpT, H' b = none) E (by omega) ((hSt c i _).mpr ⟨st, sc⟩) fun v h' tk hY st' hk _ => ?_
    obtain ⟨y, ry, hx⟩ := hy i v h' hi hY
    refine ⟨y, H, I.turnedL (t' := tk) (ch := fpT) (fun b o hb e => hk b o (fun z => hb (hsub b z)) e) hf, ry, ⟨rfl, hx⟩, ((hSt c _ _).mp st').1, fun b hb => (hf b hb).1⟩
  done := by
    intro X hP hw hK hc i pins s σ H E I hf st hg
    obtain ⟨hs, hi⟩ := hg
    obtain ⟨c, sc, ec, hy⟩ := hsrc X hP hw hK pins s σ H I hs
    subst hP hw hK
    have e : i = sz c := by omega
    subst e
    exact (G X.A c (I.ok.hd hc)).stops s (fun s1 => Inv X pins σ H s1) E ((hSt c _ _).mpr ⟨st, sc⟩) fun h' tk hk _ => I.turnedL (t' := tk) (ch := fpT) (fun b o hb e => hk b o (fun z => hb (hsub b z)) e) hf
  self := hself
/-- a new pair at each turn -/
theorem turn_pairs {p : Nat → V → V → Prop} (hself : ∀ (A : Around) (i : Nat) (s : Shared) (Q : Value → Shared → Prop) (E : Value → Shared → Prop), StI i s.heap → Q (.ref it) s → wpAny (model P w) A (pyIter (.ref it)) Q E s) (hit : it ∈ fpT) (hsub : ∀ b ∈ wr, b ∈ fpT)
    (G : ∀ (A : Around) (c : γ), A.handled = none → GoesN P w A tg it fp wr (sz c) (Y c) (St c)) (hSt : ∀ c i h, St c i h ↔ StI i h ∧ Src c h)
    (hkeep : ∀ i h h', StI i h → (∀ b ∈ fpT, ∀ o, h.get? b = some o → h'.get? b = some o) → StI i h') (hobj : ∀ i h, StI i h → ∀ b ∈ fpT, ∃ o, h.get? b = some o ∧ ∀ v, o.data ≠ .cell v)
    (hsrc : ∀ (X : Cx), X.prog = P → X.w = w → X.K = K → ∀ (pins : List (Addr × Obj)) (s : Shared) (σ : L2.St) (H : Hp), Inv X pins σ H s → HS H → ∃ c, Src c s.heap ∧ sz c = n ∧
      ∀ i v h', i < n → Y c i s.heap v h' → ∃ T a b y1 y2, v = .ref T ∧ s.heap.objs.size ≤ T ∧ IsTup h' T #[a, b] ∧ RelV y1 a ∧ RelV y2 b ∧ p i y1 y2) :
    Turn P w K tg (It2 HS n p) fpT it StI where
  mem := hit
  obj := hobj
  keep := hkeep
  item := by
    intro X hP hw hK hc i pins s σ H E I hf st hg
    obtain ⟨hs, hi⟩ := hg
    obtain ⟨c, sc, ec, hy⟩ := hsrc X hP hw hK pins s σ H I hs
    subst hP hw hK
    refine (G X.A c (I.ok.hd hc)).goes i s (fun v s2 => ∃ x_1 H', Inv X pins σ H' s2 ∧ RelV x_1 v ∧ (It2 HS n p).yld i H x_1 H' ∧ StI (i + 1) s2.heap ∧ ∀ b ∈ fpT, H' b = none) E (by omega) ((hSt c i _).mpr ⟨st, sc⟩) fun v h' tk hY st' hk _ => ?_
    obtain ⟨T, a, b, y1, y2, rfl, hT, hTup, ra, rb, hp⟩ := hy i v h' hi hY
    have new : ObjOk X.prog X.w (upd H T (.tup [y1, y2])) h' T (.tup [y1, y2]) :=
      ⟨by show 2 ≤ sizeLine; decide, [a, b], .cons ra (.cons rb .nil), hTup⟩
    refine ⟨.ref T, _, I.turnedNew (t' := tk) (ch := fpT) (fun b o hb e => hk b o (fun z => hb (hsub b z)) e) hf hT new, rfl, ⟨T, y1, y2, rfl, I.hok.fresh hT, rfl, hp⟩, ((hSt c _ _).mp st').1, fun b hb => ?_⟩
    obtain ⟨o, e, _⟩ := hobj _ _ st b hb
    rw [upd_ne (Nat.ne_of_lt (Nat.lt_of_lt_of_le (Heap.lt_size e) hT))]
    exact (hf b hb).1
  done := by
    intro X hP hw hK hc i pins s σ H E I hf st hg
    obtain ⟨hs, hi⟩ := hg
    obtain ⟨c, sc, ec, hy⟩ := hsrc X hP hw hK pins s σ H I hs
    subst hP hw hK
    have e : i = sz c := by omega
    subst e
    exact (G X.A c (I.ok.hd hc)).stops s (fun s1 => Inv X pins σ H s1) E ((hSt c _ _).mpr ⟨st, sc⟩) fun h' tk hk _ => I.turnedL (t' := tk) (ch := fpT) (fun b o hb e => hk b o (fun z => hb (hsub b z)) e) hf
  self := hself
end
/-- what a walk of pairs gives the mirror -/
theorem itok_pairs {w : World} {K : PySem.W.Frag} {ra : Addr} {F : Hp} {HS : Hp → Prop} {n : Nat} {p : Nat → V → V → Prop} {ds : List D} (hn : ds.length = n) (hs : ∀ F1 H, Same F F1 → Same F1 H → HS H)
    (hp : ∀ i v1 v2, i < n → p i v1 v2 → ∃ d1 d2, ds[i]? = some (.tup [d1, d2]) ∧ Rep w K ra F v1 d1 ∧ Rep w K ra F v2 d2) : ItOk w K ra F (It2 HS n p) ds where
  go := fun i F1 H s1 s2 hi => ⟨hs _ _ s1 s2, by omega⟩
  stop := fun i F1 H s1 s2 hi => ⟨hs _ _ s1 s2, by omega⟩
  yld := fun i F1 H x H' s1 s2 hi y => by
    obtain ⟨T, v1, v2, rfl, hT, rfl, hpp⟩ := y
    obtain ⟨d1, d2, hd, r1, r2⟩ := hp i v1 v2 (by omega) hpp
    exact ⟨_, hd, .inr ⟨T, .tup [v1, v2], hT, rfl, fun F2 s3 e => .tup (.of e) (.cons (r1.mono s3) (.cons (r2.mono s3) .nil))⟩⟩
theorem itok_plain {w : World} {K : PySem.W.Frag} {ra : Addr} {F : Hp} {HS : Hp → Prop} {n : Nat} {p : Nat → V → Prop} {ds : List D} (hn : ds.length = n) (hs : ∀ F1 H, Same F F1 → Same F1 H → HS H)
    (hp : ∀ i v, i < n → p i v → ∃ d, ds[i]? = some d ∧ Rep w K ra F v d) : ItOk w K ra F (ItP HS n p) ds where
  go := fun i F1 H s1 s2 hi => ⟨hs _ _ s1 s2, by omega⟩
  stop := fun i F1 H s1 s2 hi => ⟨hs _ _ s1 s2, by omega⟩
  yld := fun i F1 H x H' s1 s2 hi y => by
    obtain ⟨rfl, hpp⟩ := y
    obtain ⟨d, hd, r⟩ := hp i x (by omega) hpp
    exact ⟨d, hd, .inl ⟨rfl, r⟩⟩

/-! ### enumerate(tuple) -/
def enumP (vs : List V) (i : Nat) (v1 v2 : V) : Prop := v1 = .int (i : Int) ∧ vs[i]? = some v2
theorem turn_enumT {P : Program} {w : World} {K : PySem.W.Frag} {elts : List Expr} {kk : Nat} {tpos : Pos} (t e it : Addr) (vs : List V) (hne : e ≠ it) (het : e ≠ t) (hti : t ≠ it) :
    Turn P w K (.Tuple elts kk tpos) (It2 (fun H => SqT K H t vs) vs.length (enumP vs)) [e, it] e (fun i h => (∃ old, IsEnum h e it ((i : Nat) : Int) old) ∧ h.IsTupleIter it t i) := by
  refine turn_pairs (γ := Array Value) (sz := fun its => its.size) (fp := [e, it, t]) (wr := [e, it]) (St := fun its i h => (∃ old, IsEnum h e it (0 + (i : Int)) old) ∧ (h.IsTupleIter it t i ∧ h.IsTuple t its))
    (Src := fun its h => h.IsTuple t its) (fun A i s Q E st h => let ⟨⟨_, he⟩, _⟩ := st; wpAny_pyIter_enum he h) (by simp) (fun b hb => hb)
    (fun A its hh => GoesN.enumFrom 0 (Draws.tuple (show A.in1.handled = none from hh) it t hti its) e hne (by simp [hne, het]) (by simp))
    (fun c i h => by
      have e1 : (0 : Int) + (i : Int) = i := by omega
      rw [e1]
      exact ⟨fun z => ⟨⟨z.1, z.2.1⟩, z.2.2⟩, fun z => ⟨z.1.1, z.1.2, z.2⟩⟩)
    (fun i h h' st k => let ⟨⟨old, he⟩, hi⟩ := st; ⟨⟨old, k e (by simp) _ he⟩, hi.at fun o q => k it (by simp) o q⟩)
    (fun i h st b hb => by
      obtain ⟨⟨old, he⟩, ⟨o, ho, hc, hd⟩⟩ := st
      have e' : b = e ∨ b = it := by simpa using hb
      rcases e' with z | z
      · rw [z]; exact ⟨_, he, fun v q => nomatch q⟩
      · rw [z]; exact ⟨o, ho, fun v q => by rw [hd] at q; cases q⟩) ?_
  intro X hP hw hK pins s σ H I hs
  subst hP hw hK
  obtain ⟨its, rv, p, hz⟩ := I.tuple hs
  refine ⟨its.toArray, p, by simp [rv.length], fun i v h' hi y => ?_⟩
  obtain ⟨T, tk, x, rfl, hT, hx, hTup⟩ := y
  have hx' : its[i]? = some x := by simpa using hx
  obtain ⟨y2, hy2, ry2⟩ : ∃ y2, vs[i]? = some y2 ∧ RelV y2 x := by
    obtain ⟨u, hu, ru⟩ := rv.get (List.getElem?_eq_getElem hi)
    rw [hx'] at hu
    cases hu
    exact ⟨_, List.getElem?_eq_getElem hi, ru⟩
  refine ⟨T, _, x, .int (i : Int), y2, rfl, hT, hTup, ⟨tk, ?_⟩, ry2, rfl, hy2⟩
  have e1 : (0 : Int) + (i : Int) = i := by omega
  rw [e1]
def iEnumT (K : PySem.W.Frag) (ta : TA) : TI := fun σ H R => ta σ H fun vs H1 => ∃ a xs, vs = [.ref a] ∧ SqT K H1 a xs ∧ R (It2 (fun H => SqT K H a xs) xs.length (enumP xs)) H1
theorem pi_enumT {X : Cx} {e : Expr} {ta : TA} {p pos tpos : Pos} {elts : List Expr} {kk : Nat} (hg : Gl X "enumerate") (hm : X.mg "enumerate" = none) (ha : PA X [e] ta) (hs : starEach [e] X.env = [(false, eval e X.env)] := by rfl) :
    PI X (.Tuple elts kk tpos) (.Call (.Name "enumerate" p) [e] [] pos) (iEnumT X.K ta) := by
  refine ⟨fun pins s σ H R I h => ?_⟩
  refine Call_ (ld_blt I hg hm boot_enumerate (PyProof.Rows.callWith_type1 (thn (ha.run pos pins s σ H _ I h) fun us s1 ⟨vs, H1, I1, r1, q1⟩ => ?_) hs rfl))
  obtain ⟨a, xs, ex, hq, q⟩ := q1
  subst ex
  cases r1 with
  | cons r rr =>
    cases rr
    cases r
    obtain ⟨its, rv, p', hz⟩ := I1.tuple hq
    have lt : a < s1.heap.objs.size := by
      obtain ⟨o, ho, _⟩ := p'
      exact Heap.lt_size ho
    refine enum_begins1 (begins_tuple a its.toArray) p' fun h' he hit hsz hk => wpAny_pyIter_enum he ?_
    have I2 : Inv X pins σ H1 { s1 with heap := h' } := I1.kept (t' := s1.toks) hk
    refine ⟨s1.heap.objs.size + 1, [s1.heap.objs.size + 1, s1.heap.objs.size], _, _, H1, rfl, I2, turn_enumT a (s1.heap.objs.size + 1) s1.heap.objs.size xs (Nat.succ_ne_self _) (Nat.ne_of_gt (Nat.lt_succ_of_lt lt)) (Nat.ne_of_lt lt), ⟨⟨.none, he⟩, ⟨_, hit, rfl, rfl⟩⟩, fun b hb => ?_, q⟩
    have e' : b = s1.heap.objs.size + 1 ∨ b = s1.heap.objs.size := by simpa using hb
    have hle : s1.heap.objs.size ≤ b := by
      rcases e' with z | z
      · rw [z]; exact Nat.le_add_right _ _
      · rw [z]; exact Nat.le_refl _
    exact I1.fpOk hle (I1.hok.fresh hle)
end Mi

set_option Elab.async false
set_option linter.all false
set_option maxRecDepth 100000
set_option maxHeartbeats 4000000
/-! Mi, part N: what the mirror walks: lists, tuples, dicts, range, enumerate, zip, values, items. -/
namespace Mi
open PySem PySem.Spec PyProof.Rows L2
theorem paired_get {α β : Type} {R : α → β → Prop} : ∀ {xs : List α} {ys : List β} {i : Nat} {y : β}, Paired R xs ys → ys[i]? = some y → ∃ x, xs[i]? = some x ∧ R x y
  | _, _, i, y, .nil, h => by simp at h
  | _, _, 0, y, .cons a r, h => by
    simp at h
    subst h
    exact ⟨_, rfl, a⟩
  | _, _, i + 1, y, .cons a r, h => by
    obtain ⟨x, h1, h2⟩ := paired_get (i := i) r (by simpa using h)
    exact ⟨x, by simpa using h1, h2⟩
theorem RepE.getE {w : World} {K : PySem.W.Frag} {ra : Addr} {F : Hp} : ∀ {es : List (NestedKey × V × V)} {kvs : List (D × D)} {i : Nat} {e : NestedKey × V × V}, RepE w K ra F es kvs → es[i]? = some e → ∃ p, kvs[i]? = some p ∧ Rep w K ra F e.2.1 p.1 ∧ Rep w K ra F e.2.2 p.2
  | _, _, i, e, .nil, h => by simp at h
  | _, _, 0, e, .cons k a b r, h => by
    simp at h
    subst h
    exact ⟨_, rfl, a, b⟩
  | _, _, i + 1, e, .cons k a b r, h => by
    obtain ⟨x, h1, h2⟩ := RepE.getE (i := i) r (by simpa using h)
    exact ⟨x, by simpa using h1, h2⟩
/-! ### dicts -/
section
variable {P : Program} {w : World} {K : PySem.W.Frag} {tg : Expr} {a it : Addr} {o : Obj} {des : Array DictEntry} {ep : Nat} {es : List (NestedKey × V × V)}
theorem turn_rawKeys (hne : a ≠ it) (hd : o.data = .dict des ep) (hx : o.ExactDict) (pr : Paired (DEnt w) es des.toList) :
    Turn P w K tg (ItP (fun H => H a = some (objO a o)) des.size fun i y => ∃ e, es[i]? = some e ∧ y = e.2.1) [it] it (fun i h => h.IsKeyIter it a i des.size ep) := by
  refine turn_plain (γ := Unit) (sz := fun _ => des.size) (fp := [it, a]) (wr := [it]) (St := fun _ i h => h.IsKeyIter it a i des.size ep ∧ h.DictRaw a des ep) (Src := fun _ h => h.DictRaw a des ep)
    (fun A i s Q E st h => wpAny_pyIter_keyiter st h) (by simp) (fun b hb => hb) (fun A _ hh => (Goes.rawKeys hh it a hne des ep).toN) (fun _ _ _ => Iff.rfl) (fun i h h' st k => st.at fun o e => k it (by simp) o e)
    (fun i h st b hb => by
      obtain ⟨ob, ho, _, hd⟩ := st
      have e : b = it := by simpa using hb
      subst e
      exact ⟨ob, ho, fun v q => by rw [hd] at q; cases q⟩) ?_
  intro X hP hw hK pins s σ H I hs
  subst hP hw hK
  have ho : s.heap.get? a = some o := (show ObjOk X.prog X.w H s.heap a (objO a o) from I.hok a _ hs).1
  refine ⟨(), ⟨o, ho, hx, hd⟩, rfl, fun i v h' hi y => ?_⟩
  obtain ⟨hi', rfl⟩ := y
  obtain ⟨e, he, h1, h2, h3⟩ := paired_get (i := i) (y := des[i]) pr (by simp [hi'])
  exact ⟨e.2.1, h2, e, he, rfl⟩
end
def iRawD (w : World) (J : Addr → Obj → Nat → List (NestedKey × V × V) → It) (tl : TE) : TI := fun σ H R => tl σ H fun x H1 => ∃ (a : Addr) (es : List (NestedKey × V × V)) (o : Obj), x = .ref a ∧ H1 a = some (objO a o) ∧ DF w a es o ∧ R (J a o es.length es) H1
section
variable {X : Cx} {tg l : Expr} {tl : TE}
def JKeys (a : Addr) (o : Obj) (n : Nat) (es : List (NestedKey × V × V)) : It := ItP (fun H => H a = some (objO a o)) n fun i y => ∃ e, es[i]? = some e ∧ y = e.2.1
theorem pi_rawKeys (hl : PE X l tl) : PI X tg l (iRawD X.w JKeys tl) := by
  refine ⟨fun pins s σ H R I h => ?_⟩
  refine thn (hl.run pins s σ H _ I h) fun v s1 ⟨x, H1, I1, r1, a, es, o, ex, h1, ⟨hs, _, _, _, hx, des, ep, hd, pr⟩, q⟩ => ?_
  subst ex
  obtain rfl : v = Value.ref a := r1
  have ho : s1.heap.get? a = some o := (show ObjOk X.prog X.w H1 s1.heap a (objO a o) from I1.hok a _ h1).1
  have hl := Paired.length pr
  have hm : s1.heap.DictRaw a des ep := ⟨o, ho, hx, hd⟩
  refine wpAny_pyIter_dict_raw hs hm (pi_one (tk := s1.toks) I1 _ (turn_rawKeys (Nat.ne_of_lt (Heap.lt_size ho)) hd hx pr) ⟨_, Heap.get?_push_size _ rfl, rfl, rfl⟩ ?_)
  have e : des.size = es.length := by simp [hl]
  rw [e]
  exact q
variable {apos cpos : Pos}
end

/-! ### the mirror's walks -/
def itemsD (d : D) : Option (List D) := match d with
  | .lst l => some l
  | .tup l => some l
  | .dct kvs => some (kvs.map (·.1))
  | _ => none
def walkM (m : M D) : M (List D) := bindM m fun d => liftO (itemsD d)
theorem RepE.keyAt {w : World} {K : PySem.W.Frag} {ra : Addr} {F : Hp} {es : List (NestedKey × V × V)} {kvs : List (D × D)} (r : RepE w K ra F es kvs) {i : Nat} {y : V} (h : ∃ e, es[i]? = some e ∧ y = e.2.1) : ∃ d, (kvs.map (·.1))[i]? = some d ∧ Rep w K ra F y d := by
  obtain ⟨e, he, rfl⟩ := h
  obtain ⟨p, hp, r1, _⟩ := r.getE he
  exact ⟨p.1, by simp [hp], r1⟩
section
variable {X : Cx} {W : WX} {tg it : Expr} {m : M D} {p pos : Pos}
theorem tG_ok {w : World} {K : PySem.W.Frag} {ra : Addr} {HK : Kp} {F H : Hp} {e e1 : Env} {σ : St} {d : D} {Q : VK} (R : Rel w K ra HK F e σ H) (hm : m e = .ok d e1) (h : okG TV w K ra HK F σ Q d e1) : tG TV w K W m σ H Q :=
  ⟨ra, HK, F, e, R, by rw [hm]; exact h⟩
theorem tG_exc {w : World} {K : PySem.W.Frag} {ra : Addr} {HK : Kp} {F H : Hp} {e e1 : Env} {σ : St} {x : Exn} {Q : VK} (R : Rel w K ra HK F e σ H) (hm : m e = .exc x e1) (h : exW w K ra HK F W x e1) : tG TV w K W m σ H Q :=
  ⟨ra, HK, F, e, R, by rw [hm]; exact h⟩
theorem pim_items (h : PM X W it m) : PIM X W tg it (walkM m) := by
  refine PI.weaken (PI.or (pi_list h) (PI.or (pi_tup h) (pi_rawKeys h))) ?_
  rintro σ H Q ⟨ra, HK, F, e, R, hw⟩
  have hw := wp_bind.mp hw
  cases hm : m e with
  | err =>
    rw [hm] at hw
    exact hw.elim
  | exc x e1 =>
    rw [hm] at hw
    exact .inl (tG_exc R hm hw)
  | ok d e1 =>
    rw [hm] at hw
    cases d with
    | lst l =>
      refine .inl (tG_ok R hm fun b F' H' s R' r => ?_)
      cases r with
      | @lst a vs ds h1 h2 => exact ⟨a, rfl, ⟨vs, .of (R'.fh _ _ h1)⟩, hw _ F' H' s R' (itok_list h1 h2)⟩
    | tup l =>
      refine .inr (.inl (tG_ok R hm fun b F' H' s R' r => ?_))
      cases r with
      | @tup a vs ds h1 h2 => exact ⟨a, rfl, ⟨vs, Same.seqT R'.fh h1⟩, hw _ F' H' s R' (itok_tup h1 h2)⟩
    | dct kvs =>
      refine .inr (.inr (tG_ok R hm fun b F' H' s R' r => ?_))
      cases r with
      | @dct a es kvs h1 h2 =>
        obtain ⟨o, h3, h4⟩ := h1
        exact ⟨a, es, o, rfl, R'.fh _ _ h3, h4, hw _ F' H' s R' (itok_plain (by simp [h2.length]) (fun F1 H1 s1 s2 => s2 _ _ (s1 _ _ h3)) fun i v hi hp => h2.keyAt hp)⟩
    | _ => exact hw.elim
theorem itok_range {w : World} {K : PySem.W.Frag} {ra : Addr} {F : Hp} (lo : Int) (n : Nat) : ItOk w K ra F (Itr lo n) ((List.range n).map fun (i : Nat) => D.int (lo + i)) where
  go := fun i F1 H s1 s2 hi => by simpa [Itr] using hi
  stop := fun i F1 H s1 s2 hi => by
    have : i = n := by simpa using hi
    show n ≤ i
    omega
  yld := fun i F1 H x H' s1 s2 hi y => by
    obtain ⟨rfl, rfl⟩ := y
    exact ⟨.int (lo + i), by simp at hi; simp [hi], .inl ⟨rfl, .int _⟩⟩
def okI (i : Int) : Bool := decide (i.natAbs ≤ 1000000000)
theorem okI_of {i : Int} (h : okI i = true) : -(2 ^ 62) ≤ i ∧ i < 2 ^ 62 := by
  unfold okI at h
  simp only [decide_eq_true_eq] at h
  omega
def rngL (lo hi : Int) : List D := (List.range (hi - lo).toNat).map fun (i : Nat) => D.int (lo + i)
def range1D (l : List D) : Option (List D) := match l with
  | [.int j] => if okI j then some (rngL 0 j) else none
  | _ => none
def range2D (l : List D) : Option (List D) := match l with
  | [.int i, .int j] => if okI i && okI j then some (rngL i j) else none
  | _ => none
theorem range1_inv {l ds : List D} (h : range1D l = some ds) : ∃ j, l = [.int j] ∧ okI j = true ∧ ds = rngL 0 j := by
  unfold range1D at h
  split at h
  · rename_i j
    by_cases c : okI j = true
    · rw [if_pos c] at h
      cases h
      exact ⟨j, rfl, c, rfl⟩
    · rw [if_neg c] at h
      cases h
  · cases h
theorem range2_inv {l ds : List D} (h : range2D l = some ds) : ∃ i j, l = [.int i, .int j] ∧ okI i = true ∧ okI j = true ∧ ds = rngL i j := by
  unfold range2D at h
  split at h
  · rename_i i j
    by_cases c : (okI i && okI j) = true
    · rw [if_pos c] at h
      cases h
      obtain ⟨c1, c2⟩ := Bool.and_eq_true_iff.mp c
      exact ⟨i, j, rfl, c1, c2, rfl⟩
    · rw [if_neg c] at h
      cases h
  · cases h
def listM (m : M (List D)) (f : List D → Option (List D)) : M (List D) := bindM m fun l => liftO (f l)
theorem pim_range1 {a : Expr} {ma : M (List D)} (hm : X.mg "range" = none) (ha : PMA X W [a] ma) (hg : Gl X "range" := by rfl) (hs : starEach [a] X.env = [(false, eval a X.env)] := by rfl) : PIM X W tg (.Call (.Name "range" p) [a] [] pos) (listM ma range1D) := by
  refine PI.weaken (pi_range1 hg hm ha hs) ?_
  rintro σ H Q ⟨ra, HK, F, e, R, hw⟩
  have hw := wp_bind.mp hw
  refine ⟨ra, HK, F, e, R, wp_mono hw (fun l e1 q vs F1 H1 s1 R1 r1 => ?_) fun _ _ q => q⟩
  unfold liftO at q
  cases ez : range1D l with
  | none =>
    rw [ez] at q
    exact q.elim
  | some ds =>
    rw [ez] at q
    have r1' : RepA X.w X.K ra F1 vs l := r1
    obtain ⟨j, rfl, c, rfl⟩ := range1_inv ez
    cases r1' with
    | cons x y =>
      cases x
      cases y
      obtain ⟨c1, c2⟩ := okI_of c
      refine ⟨j, rfl, c1, c2, ?_⟩
      have := q (Itr 0 j.toNat) F1 H1 s1 R1
      unfold rngL at this
      rw [Int.sub_zero] at this
      exact this (itok_range 0 j.toNat)
theorem pim_range2 {a b : Expr} {ma : M (List D)} (hm : X.mg "range" = none) (ha : PMA X W [a, b] ma) (hg : Gl X "range" := by rfl) (hs : starEach [a, b] X.env = [(false, eval a X.env), (false, eval b X.env)] := by rfl) (hs2 : starEach [b] X.env = [(false, eval b X.env)] := by rfl) : PIM X W tg (.Call (.Name "range" p) [a, b] [] pos) (listM ma range2D) := by
  refine PI.weaken (pi_range2 hg hm ha hs hs2) ?_
  rintro σ H Q ⟨ra, HK, F, e, R, hw⟩
  have hw := wp_bind.mp hw
  refine ⟨ra, HK, F, e, R, wp_mono hw (fun l e1 q vs F1 H1 s1 R1 r1 => ?_) fun _ _ q => q⟩
  unfold liftO at q
  cases ez : range2D l with
  | none =>
    rw [ez] at q
    exact q.elim
  | some ds =>
    rw [ez] at q
    have r1' : RepA X.w X.K ra F1 vs l := r1
    obtain ⟨i, j, rfl, c, c', rfl⟩ := range2_inv ez
    cases r1' with
    | cons x y =>
      cases y with
      | cons y z =>
        cases x
        cases y
        cases z
        exact ⟨i, j, rfl, ⟨(okI_of c).1, (okI_of c).2, (okI_of c').1, (okI_of c').2⟩, q _ F1 H1 s1 R1 (itok_range i (j - i).toNat)⟩
/-! enumerate -/
def enumL (l : List D) : List D := l.zipIdx.map fun (d, (i : Nat)) => .tup [.int i, d]
def enum1D (l : List D) : Option (List D) := match l with
  | [.lst l] => some (enumL l)
  | [.tup l] => some (enumL l)
  | _ => none
theorem enumL_length (l : List D) : (enumL l).length = l.length := by simp [enumL]
theorem enumL_get {l : List D} {i : Nat} {d : D} (h : l[i]? = some d) : (enumL l)[i]? = some (.tup [.int i, d]) := by
  unfold enumL
  rw [List.getElem?_map, List.getElem?_zipIdx, h]
  simp
theorem itok_enumL {w : World} {K : PySem.W.Frag} {ra : Addr} {F : Hp} {a : Addr} {vs : List V} {ds : List D} (h : F a = some (.lst vs)) (r : RepA w K ra F vs ds) : ItOk w K ra F (Ite K a) (enumL ds) where
  go := fun i F1 H s1 s2 hi => by
    rw [enumL_length] at hi
    obtain ⟨v, hv, _⟩ := r.get (List.getElem?_eq_getElem hi)
    exact ⟨vs, v, .of (s2 _ _ (s1 _ _ h)), hv⟩
  stop := fun i F1 H s1 s2 hi => ⟨vs, .of (s2 _ _ (s1 _ _ h)), by rw [r.length, hi, enumL_length]; exact Nat.le_refl _⟩
  yld := fun i F1 H x H' s1 s2 hi y => by
    obtain ⟨T, x1, rfl, hT, rfl, k⟩ := y
    have hx := k vs (.of (s2 _ _ (s1 _ _ h)))
    obtain ⟨d, hd, rd⟩ := r.get' hx
    exact ⟨_, enumL_get hd, .inr ⟨T, _, hT, rfl, fun F2 s3 e => .tup (.of e) (.cons (.int _) (.cons (rd.mono s3) .nil))⟩⟩
theorem itok_enumT {w : World} {K : PySem.W.Frag} {ra : Addr} {F : Hp} {a : Addr} {vs : List V} {ds : List D} (h : SqT K F a vs) (r : RepA w K ra F vs ds) : ItOk w K ra F (It2 (fun H => SqT K H a vs) vs.length (enumP vs)) (enumL ds) :=
  itok_pairs (by rw [enumL_length, r.length]) (fun F1 H s1 s2 => Same.seqT s2 (Same.seqT s1 h)) fun i v1 v2 hi hp => by
    obtain ⟨rfl, hv⟩ := hp
    obtain ⟨d, hd, rd⟩ := r.get' hv
    exact ⟨_, _, enumL_get hd, .int _, rd⟩
theorem enum_inv {l ds : List D} (h : enum1D l = some ds) : ∃ l', (l = [.lst l'] ∨ l = [.tup l']) ∧ ds = enumL l' := by
  unfold enum1D at h
  split at h
  · cases h
    exact ⟨_, .inl rfl, rfl⟩
  · cases h
    exact ⟨_, .inr rfl, rfl⟩
  · cases h
theorem tGA_ok {w : World} {K : PySem.W.Frag} {ra : Addr} {HK : Kp} {F H : Hp} {e e1 : Env} {σ : St} {d : List D} {m : M (List D)} {Q : List V → Hp → Prop} (R : Rel w K ra HK F e σ H) (hm : m e = .ok d e1) (h : okG TAs w K ra HK F σ Q d e1) : tG TAs w K W m σ H Q :=
  ⟨ra, HK, F, e, R, by rw [hm]; exact h⟩
theorem tGA_exc {w : World} {K : PySem.W.Frag} {ra : Addr} {HK : Kp} {F H : Hp} {e e1 : Env} {σ : St} {x : Exn} {m : M (List D)} {Q : List V → Hp → Prop} (R : Rel w K ra HK F e σ H) (hm : m e = .exc x e1) (h : exW w K ra HK F W x e1) : tG TAs w K W m σ H Q :=
  ⟨ra, HK, F, e, R, by rw [hm]; exact h⟩
theorem pim_enum {a : Expr} {elts : List Expr} {kk : Nat} {tpos : Pos} {ma : M (List D)} (hm : X.mg "enumerate" = none) (ha : PMA X W [a] ma) (hg : Gl X "enumerate" := by rfl) (hs : starEach [a] X.env = [(false, eval a X.env)] := by rfl) : PIM X W (.Tuple elts kk tpos) (.Call (.Name "enumerate" p) [a] [] pos) (listM ma enum1D) := by
  refine PI.weaken (PI.or (pi_enum hg hm ha hs) (pi_enumT hg hm ha hs)) ?_
  rintro σ H Q ⟨ra, HK, F, e, R, hw⟩
  have hw := wp_bind.mp hw
  cases hm : ma e with
  | err =>
    rw [hm] at hw
    exact hw.elim
  | exc x e1 =>
    rw [hm] at hw
    exact .inl (tGA_exc R hm hw)
  | ok l e1 =>
    rw [hm] at hw
    unfold liftO at hw
    simp only [Res.wp] at hw
    cases ez : enum1D l with
    | none =>
      rw [ez] at hw
      exact hw.elim
    | some ds =>
      rw [ez] at hw
      obtain ⟨l', rfl | rfl, rfl⟩ := enum_inv ez
      · refine .inl (tGA_ok R hm fun b F' H' s R' r => ?_)
        have r' : RepA X.w X.K ra F' b [.lst l'] := r
        cases r' with
        | cons x y =>
          cases y
          cases x with
          | @lst a vs ds h1 h2 => exact ⟨a, vs, rfl, .of (R'.fh _ _ h1), hw _ F' H' s R' (itok_enumL h1 h2)⟩
      · refine .inr (tGA_ok R hm fun b F' H' s R' r => ?_)
        have r' : RepA X.w X.K ra F' b [.tup l'] := r
        cases r' with
        | cons x y =>
          cases y
          cases x with
          | @tup a vs ds h1 h2 => exact ⟨a, vs, rfl, Same.seqT R'.fh h1, hw _ F' H' s R' (itok_enumT h1 h2)⟩
/-! zip of two lists -/
def zipL (l l' : List D) : List D := (l.zip l').map fun (a, b) => .tup [a, b]
def zipD (l : List D) : Option (List D) := match l with
  | [.lst l, .lst l'] => some (zipL l l')
  | _ => none
/-! d.values(), d.items() -/
def walkD (m : M D) (f : D → Option (List D)) : M (List D) := bindM m fun d => liftO (f d)
variable {apos cpos : Pos}
end
end Mi

set_option Elab.async false
set_option linter.all false
set_option maxRecDepth 100000
set_option maxHeartbeats 4000000
/-! Mi, part O: list comprehensions. -/
namespace Mi
open PySem PySem.Spec PyProof.Rows L2
def wipeS (sl : List Slot) : List Nat → List Slot
  | [] => sl
  | v :: vs => (wipeS sl vs).set v .no
def restS (sl' sl : List Slot) : List Nat → List Slot
  | [] => sl'
  | v :: vs => (restS sl' sl vs).set v ((sl[v]?).getD .no)
theorem restS_length (sl' sl : List Slot) : ∀ vs, (restS sl' sl vs).length = sl'.length
  | [] => rfl
  | v :: vs => by unfold restS; rw [List.length_set, restS_length sl' sl vs]
theorem restS_in {sl' sl : List Slot} {j : Nat} : ∀ {vs : List Nat}, j ∈ vs → j < sl'.length → (restS sl' sl vs)[j]? = some ((sl[j]?).getD .no)
  | v :: vs, h, l => by
    unfold restS
    by_cases e : v = j
    · subst e
      rw [List.getElem?_set_self (by rw [restS_length]; exact l)]
    · rw [List.getElem?_set_ne e]
      exact restS_in (by
        rcases List.mem_cons.mp h with z | z
        · exact absurd z.symm e
        · exact z) l
theorem restS_out {sl' sl : List Slot} {j : Nat} : ∀ {vs : List Nat}, j ∉ vs → (restS sl' sl vs)[j]? = sl'[j]?
  | [], _ => rfl
  | v :: vs, h => by
    unfold restS
    rw [List.mem_cons, not_or] at h
    rw [List.getElem?_set_ne fun z => h.1 z.symm]
    exact restS_out h.2
def wipeE (e : Env) (vs : List Nat) : Env := { e with sl := wipeS e.sl vs }
def restE (e' e : Env) (vs : List Nat) : Env := { e' with sl := restS e'.sl e.sl vs }
def Slot.isOwn : Slot → Bool
  | .own _ => true
  | .box _ => true
  | .dsk _ _ _ => true
  | _ => false
theorem Slot.own_c (s : Slot) : s.isOwn = s.isC := by cases s <;> rfl
def noOwn (sl : List Slot) (vs : List Nat) : Bool := vs.all fun v => !((sl[v]?).getD .no).isOwn
section
variable {w : World} {K : PySem.W.Frag} {ra : Addr} {HK : Kp} {F F0 H H0 : Hp} {e e' : Env} {σ : St}
theorem Rel.wipe (R : Rel w K ra HK F e σ H) : ∀ vs : List Nat, Rel w K ra HK F (wipeE e vs) (L2.wipe σ vs) H
  | [] => R
  | v :: vs => (Rel.wipe R vs).setNo v none
theorem Rel.rest (R' : Rel w K ra HK F e' (L2.wipe σ vs) H) (R : Rel w K ra HK F0 e σ H0) (s : Same F0 F) (hn : noOwn e.sl vs = true) : Rel w K ra HK F (restE e' e vs) σ H := by
  have hlen : e'.sl.length = σ.length := by rw [R'.len, wipe_length]
  have hno : ∀ j ∈ vs, ∀ s, s.isC = true → e.sl[j]? ≠ some s := fun j hj s c z => by
    have := List.all_eq_true.mp hn j hj
    rw [z, Option.getD_some, Slot.own_c, c] at this
    cases this
  have own_out : ∀ {j : Nat} {o : Slot}, (restS e'.sl e.sl vs)[j]? = some o → o.isC = true → j ∉ vs ∧ e'.sl[j]? = some o := fun {j o} h oc => by
    by_cases c : j ∈ vs
    · exfalso
      have l : j < e'.sl.length := by
        have := (List.getElem?_eq_some_iff.mp h).1
        rw [restS_length] at this
        exact this
      rw [restS_in c l] at h
      cases q : e.sl[j]? with
      | none =>
        rw [q] at h
        cases h
        cases oc
      | some s =>
        rw [q] at h
        simp only [Option.getD_some, Option.some.injEq] at h
        subst h
        exact hno j c _ oc q
    · rw [restS_out c] at h
      exact ⟨c, h⟩
  refine ⟨R'.fh, R'.kh, by show (restS e'.sl e.sl vs).length = _; rw [restS_length]; exact hlen, fun j t hj => ?_, fun i j s1 s2 a a' p hij h1 h2 k1 k2 h3 h4 f => ?_, R'.row, R'.fra, R'.kra, R'.pn⟩
  · have hj' : (restS e'.sl e.sl vs)[j]? = some t := hj
    by_cases c : j ∈ vs
    · have l : j < e'.sl.length := by
        have := (List.getElem?_eq_some_iff.mp hj').1
        rw [restS_length] at this
        exact this
      rw [restS_in c l] at hj'
      cases q : e.sl[j]? with
      | none =>
        rw [q] at hj'
        cases hj'
        trivial
      | some u =>
        rw [q] at hj'
        simp only [Option.getD_some, Option.some.injEq] at hj'
        subst hj'
        have := R.sl j u q
        exact this.mono s fun p hc _ => absurd q (hno j c _ hc)
    · rw [restS_out c] at hj'
      have := R'.sl j t hj'
      rw [wipe_out c] at this
      exact this
  · obtain ⟨c1, q1⟩ := own_out h1 k1
    obtain ⟨c2, q2⟩ := own_out h2 k2
    exact R'.sep i j s1 s2 a a' p hij q1 q2 k1 k2 (by rw [wipe_out c1]; exact h3) (by rw [wipe_out c2]; exact h4) f
/-- a list under construction -/
def pinD (HK : Kp) (D : Addr) (u : HO) : Kp := ⟨upd HK.h D u, fun a => HK.pin a ∨ a = D, HK.me⟩
theorem Rel.pinNew (R : Rel w K ra HK F e σ H) {D : Addr} (hD : H D = none) (u : HO) : Rel w K ra (pinD HK D u) F e σ (upd H D u) := by
  have R2 := R.grow hD u
  have fD : F D = none := R.fh.free hD
  refine ⟨R2.fh, fun b z q => ?_, R2.len, fun i s h => ?_, R2.sep, R2.row, R2.fra, ?_, fun b hb => ?_⟩
  · have q' : upd HK.h D u b = some z := q
    by_cases hb : b = D
    · subst hb
      rw [upd_same] at q' ⊢
      exact q'
    · rw [upd_ne hb] at q' ⊢
      exact R.kh b z q'
  · have := R2.sl i s h
    cases s with
    | no => trivial
    | pin => exact this
    | val d => exact this
    | dsk l o' r' =>
      obtain ⟨a, e1, r, fa, ka, na, me⟩ := this
      have hne : a ≠ D := fun z => (R.foot h rfl e1 (.inl rfl)).2.2.2 (by rw [z]; exact hD)
      exact ⟨a, e1, r, fa, by show upd HK.h D u a = none; rw [upd_ne hne]; exact ka, na, me⟩
    | own o =>
      obtain ⟨a, e1, r, fa, ka, na⟩ := this
      exact ⟨a, e1, r, fa, by show upd HK.h D u a = none; rw [upd_ne fun z => R.own_some h e1 (by rw [z]; exact hD)]; exact ka, na⟩
    | box l =>
      obtain ⟨a, e1, es, at_, rb, nd, f⟩ := this
      refine ⟨a, e1, es, at_, rb, nd, fun p hp => ?_⟩
      obtain ⟨f1, f2, f3, f4⟩ := f p hp
      refine ⟨f1, ?_, f3, f4⟩
      show upd HK.h D u p = none
      by_cases z : p = D
      · subst z
        have na : a ≠ p := fun z => by
          have := (R.foot h rfl e1 (.inl rfl)).2.2.2
          rw [z] at this
          exact this hD
        rcases hp with rfl | hp
        · exact absurd rfl na
        · exact absurd hD (R.foot h rfl e1 (.inr ⟨rfl, (Inn.congr (upd_ne na)).mp hp⟩)).2.2.2
      · rw [upd_ne z]
        exact f2
  · show upd HK.h D u ra = none
    rw [upd_ne fun z => R.ra_some (by rw [z]; exact hD)]
    exact R.kra
  · rcases hb with hb | rfl
    · refine ⟨?_, (R.pn b hb).2⟩
      show upd HK.h D u b ≠ none
      by_cases c : b = D
      · subst c
        rw [upd_same]
        exact fun z => by cases z
      · rw [upd_ne c]
        exact (R.pn b hb).1
    · exact ⟨by show upd HK.h b u b ≠ none; rw [upd_same]; exact (fun z => by cases z), fD⟩
theorem Rel.repin {D : Addr} {u u' : HO} (R : Rel w K ra (pinD HK D u) F e σ H) : Rel w K ra (pinD HK D u') F e σ (upd H D u') := by
  have fD : F D = none := (R.pn D (.inr rfl)).2
  have nra : ra ≠ D := fun z => by
    have := R.kra
    have e : upd HK.h D u ra = none := this
    rw [z, upd_same] at e
    cases e
  have kne : ∀ b, (pinD HK D u).h b = none → b ≠ D := fun b hb z => by
    have e : upd HK.h D u b = none := hb
    rw [z, upd_same] at e
    cases e
  refine ⟨fun b z q => ?_, fun b z q => ?_, R.len, fun i s h => ?_, R.sep.heap fun i s a h c hs => upd_ne (kne a (R.foot h c hs (.inl rfl)).2.1), R.row.mono (Same.refl F) (upd_ne nra), R.fra, ?_, fun b hb => ?_⟩
  · rw [upd_ne (ne_of_none q fD)]
    exact R.fh b z q
  · have q' : upd HK.h D u' b = some z := q
    by_cases hb : b = D
    · subst hb
      rw [upd_same] at q' ⊢
      exact q'
    · rw [upd_ne hb] at q' ⊢
      exact R.kh b z (by show upd HK.h D u b = some z; rw [upd_ne hb]; exact q')
  · cases s with
    | no => trivial
    | pin => exact R.sl i _ h
    | val d => exact R.sl i _ h
    | dsk l o' r' =>
      obtain ⟨a, e1, r, fa, ka, na, me⟩ := R.sl i _ h
      have hne : a ≠ D := kne a ka
      exact ⟨a, e1, r.mono (Same.refl F) (upd_ne hne), fa, by show upd HK.h D u' a = none; rw [upd_ne hne]; exact (by have e : upd HK.h D u a = none := ka; rwa [upd_ne hne] at e), na, me⟩
    | box l =>
      obtain ⟨a, e1, es, at_, rb, nd, f⟩ := R.sl i _ h
      have na : a ≠ D := kne a (f a (.inl rfl)).2.1
      refine ⟨a, e1, es, ?_, rb.mono (Same.refl F) fun e he p hp => upd_ne (kne p (f p (.inr (at_.inn he hp))).2.1), nd, fun p hp => ?_⟩
      · obtain ⟨o, h1, h2⟩ := at_
        exact ⟨o, (upd_ne na).trans h1, h2⟩
      · obtain ⟨f1, f2, f3, f4⟩ := f p (hp.imp id (Inn.congr (upd_ne na)).mp)
        have ne := kne p f2
        refine ⟨f1, ?_, f3, by rw [upd_ne ne]; exact f4⟩
        show upd HK.h D u' p = none
        have e : upd HK.h D u p = none := f2
        rw [upd_ne ne] at e ⊢
        exact e
    | own o =>
      obtain ⟨a, e1, r, fa, ka, na⟩ := R.sl i _ h
      have hne : a ≠ D := fun z => by
        have e : upd HK.h D u a = none := ka
        rw [z, upd_same] at e
        cases e
      refine ⟨a, e1, ?_, fa, by show upd HK.h D u' a = none; rw [upd_ne hne]; exact (by have e : upd HK.h D u a = none := ka; rwa [upd_ne hne] at e), na⟩
      cases o with
      | lst ds =>
        obtain ⟨vs, h1, h2⟩ := r
        exact ⟨vs, (upd_ne hne).trans h1, h2⟩
      | dct kvs =>
        obtain ⟨es, ⟨o, h1, h3⟩, h2⟩ := r
        exact ⟨es, ⟨o, (upd_ne hne).trans h1, h3⟩, h2⟩
  · show upd HK.h D u' ra = none
    rw [upd_ne nra]
    have e : upd HK.h D u ra = none := R.kra
    rwa [upd_ne nra] at e
  · refine ⟨?_, (R.pn b hb).2⟩
    show upd HK.h D u' b ≠ none
    by_cases c : b = D
    · subst c
      rw [upd_same]
      exact fun z => by cases z
    · rw [upd_ne c]
      have := (R.pn b hb).1
      have e : upd HK.h D u b ≠ none := this
      rwa [upd_ne c] at e
theorem Rel.unpin {D : Addr} {u : HO} (R : Rel w K ra (pinD HK D u) F e σ H) (hk : HK.h D = none) (hp : ∀ a, HK.pin a → HK.h a ≠ none) : Rel w K ra HK F e σ H ∧ F D = none ∧ D ≠ ra ∧ H D = some u ∧ NotIn e σ H D := by
  have nra : D ≠ ra := fun z => by
    have e : upd HK.h D u ra = none := R.kra
    rw [← z, upd_same] at e
    cases e
  have kne : ∀ b, (pinD HK D u).h b = none → b ≠ D := fun b hb z => by
    have e : upd HK.h D u b = none := hb
    rw [z, upd_same] at e
    cases e
  refine ⟨⟨R.fh, fun b z q => ?_, R.len, fun i s h => ?_, R.sep, R.row, R.fra, ?_, fun b hb => ⟨hp b hb, (R.pn b (.inl hb)).2⟩⟩, (R.pn D (.inr rfl)).2, nra, R.kh D u (by show upd HK.h D u D = some u; exact upd_same), fun i s a h c hs f => kne D (R.foot h c hs f).2.1 rfl⟩
  · exact R.kh b z (by show upd HK.h D u b = some z; rw [upd_ne (ne_of_none q hk)]; exact q)
  · cases s with
    | no => trivial
    | pin => exact R.sl i _ h
    | val d => exact R.sl i _ h
    | dsk l o' r' =>
      obtain ⟨a, e1, r, fa, ka, na, me⟩ := R.sl i _ h
      have hne : a ≠ D := kne a ka
      exact ⟨a, e1, r, fa, by have e : upd HK.h D u a = none := ka; rwa [upd_ne hne] at e, na, me⟩
    | own o =>
      obtain ⟨a, e1, r, fa, ka, na⟩ := R.sl i _ h
      have hne : a ≠ D := fun z => by
        have e : upd HK.h D u a = none := ka
        rw [z, upd_same] at e
        cases e
      exact ⟨a, e1, r, fa, by have e : upd HK.h D u a = none := ka; rwa [upd_ne hne] at e, na⟩
    | box l =>
      obtain ⟨a, e1, es, at_, rb, nd, f⟩ := R.sl i _ h
      refine ⟨a, e1, es, at_, rb, nd, fun p hp => ?_⟩
      obtain ⟨f1, f2, f3, f4⟩ := f p hp
      have e : upd HK.h D u p = none := f2
      rw [upd_ne (kne p f2)] at e
      exact ⟨f1, e, f3, f4⟩
  · have e : upd HK.h D u ra = none := R.kra
    rwa [upd_ne nra.symm] at e
end
theorem notIn_rest {e e' : Env} {σ : St} {H : Hp} {D : Addr} {vs : List Nat} (nd : NotIn e' (L2.wipe σ vs) H D) (hn : noOwn e.sl vs = true) : NotIn (restE e' e vs) σ H D := fun i s a h c hs f => by
  have h' : (restS e'.sl e.sl vs)[i]? = some s := h
  by_cases q : i ∈ vs
  · have l : i < e'.sl.length := by
      have := (List.getElem?_eq_some_iff.mp h').1
      rw [restS_length] at this
      exact this
    rw [restS_in q l] at h'
    have := List.all_eq_true.mp hn i q
    simp only [Option.some.injEq] at h'
    rw [h', Slot.own_c, c] at this
    cases this
  · rw [restS_out q] at h'
    exact nd i s a h' c (by rw [L2.wipe_out q]; exact hs) f
/-! ### the mirror -/
def lcGo (g : D → M Unit) (t : M Bool) (el : M D) (vs : List Nat) : List D → List D → M (List D)
  | [], acc => pureM acc
  | d :: ds, acc => bindM (g d) fun _ => bindM t fun c => if c = true then bindM el fun y => bindM (small (acc ++ [y])) fun _ => fun e => lcGo g t el vs ds (acc ++ [y]) (wipeE e vs) else fun e => lcGo g t el vs ds acc (wipeE e vs)
def lcRun (g : D → M Unit) (t : M Bool) (el : M D) (vs : List Nat) (ds : List D) : M OD := fun e => if noOwn e.sl vs = true then (match lcGo g t el vs ds [] (wipeE e vs) with
  | .ok l e' => .ok (.lst l) (restE e' e vs)
  | _ => .err) else .err
def lcM (mi : M (List D)) (g : D → M Unit) (t : M Bool) (el : M D) (vs : List Nat) : M OD := bindM mi (lcRun g t el vs)
/-- nothing is raised here -/
abbrev WN : WX := fun _ _ _ _ => False
def PMTs (X : Cx) (W : WX) (ifs : List Expr) (m : M Bool) : Prop := PTs X ifs (tG TB X.w X.K W m)
theorem PTs.weaken {X : Cx} {ifs : List Expr} {t t' : TT} (h : PTs X ifs t) (k : ∀ σ H Q, t' σ H Q → t σ H Q) : PTs X ifs t' := ⟨fun pins s σ H Q I hw => h.run pins s σ H Q I (k σ H Q hw)⟩
theorem pmts_nil {X : Cx} {W : WX} : PMTs X W [] (pureM true) := PTs.weaken pts_nil fun σ H Q h => by
  obtain ⟨ra, HK, F, e, R, h⟩ := h
  exact h true F H (Same.refl F) R rfl
theorem pmts_one {X : Cx} {W : WX} {c : Expr} {m : M Bool} (h : PMT X W c m) : PMTs X W [c] m := pts_one h
theorem lc_read {w : World} {K : PySem.W.Frag} {W : WX} {mi : M (List D)} {g : D → M Unit} {t : M Bool} {el : M D} {is vs : List Nat} (hsub : ∀ i ∈ is, i ∈ vs) {σ : St} {H : Hp} {Q : VK} (h : tG TO w K W (lcM mi g t el vs) σ H Q) :
    tLc (tI w K W mi) (tT w K is g) (tG TB w K WN t) (tG TV w K WN el) vs σ H Q := by
  obtain ⟨ra, HK, F, e, R, h⟩ := h
  unfold lcM at h
  refine ⟨ra, HK, F, e, R, wp_mono (wp_bind.mp h) (fun ds e1 q J F1 H1 s1 R1 ok => ?_) fun _ _ q => q⟩
  intro D hD
  unfold lcRun at q
  by_cases hn : noOwn e1.sl vs = true
  · simp only [if_pos hn] at q
    cases eg : lcGo g t el vs ds [] (wipeE e1 vs) with
    | err =>
      rw [eg] at q
      exact q.elim
    | exc x e' =>
      rw [eg] at q
      exact q.elim
    | ok l e' =>
      rw [eg] at q
      have kD : HK.h D = none := R1.kh.free hD
      have hpn : ∀ a, HK.pin a → HK.h a ≠ none := fun a ha => (R1.pn a ha).1
      refine ⟨fun i m H => m = ds.length - i ∧ i ≤ ds.length ∧ ∃ F2 e2 acc dacc, Same F1 F2 ∧ Rel w K ra (pinD HK D (.lst acc)) F2 e2 (wipe σ vs) H ∧ RepA w K ra F2 acc dacc ∧ dacc.length ≤ sizeLine ∧ lcGo g t el vs (ds.drop i) dacc e2 = .ok l e',
        ⟨ds.length, rfl, Nat.zero_le _, F1, _, [], [], Same.refl F1, (R1.wipe vs).pinNew hD _, .nil, Nat.zero_le _, eg⟩, ?_⟩
      rintro i m H2 ⟨rfl, hil, F2, e2, acc, dacc, s2, R2, ra2, hz2, h2⟩
      by_cases hlt : i < ds.length
      · refine .inr ⟨ok.go i F2 H2 s2 R2.fh hlt, fun H' => ∃ F2 e2 acc dacc, Same F1 F2 ∧ Rel w K ra (pinD HK D (.lst acc)) F2 e2 (wipe σ vs) H' ∧ RepA w K ra F2 acc dacc ∧ dacc.length ≤ sizeLine ∧ lcGo g t el vs (ds.drop (i + 1)) dacc e2 = .ok l e',
          fun H' z => ⟨ds.length - (i + 1), by omega, rfl, hlt, z⟩, fun x H3 y => ?_⟩
        obtain ⟨d, F3, hd, s3, R3, r3⟩ := R2.turn ok s2 hlt y
        rw [drop_cons hd] at h2
        unfold lcGo bindM at h2
        refine ⟨ra, _, F3, e2, d, R3, r3, ?_⟩
        cases eg2 : g d e2 with
        | err =>
          rw [eg2] at h2
          cases h2
        | exc x e3 =>
          rw [eg2] at h2
          cases h2
        | ok u e3 =>
          rw [eg2] at h2
          simp only at h2
          intro σ4 F4 H4 b4 s4 R4
          have hw4 : wipe σ4 vs = wipe σ vs := by
            rw [b4.wiped hsub]
            apply List.ext_getElem?
            intro j
            by_cases c : j ∈ vs
            · have key : ∀ (τ : St) (us : List Nat), j ∈ us → (wipe τ us)[j]? = if j < τ.length then some none else none := by
                intro τ us
                induction us with
                | nil => intro h; cases h
                | cons u us ih =>
                  intro hj
                  unfold L2.wipe
                  by_cases e : u = j
                  · subst e
                    by_cases l : u < τ.length
                    · rw [if_pos l, List.getElem?_set_self (by rw [wipe_length]; exact l)]
                    · rw [if_neg l, List.getElem?_eq_none (by rw [List.length_set, wipe_length]; omega)]
                  · rw [List.getElem?_set_ne e]
                    exact ih (by
                      rcases List.mem_cons.mp hj with z | z
                      · exact absurd z.symm e
                      · exact z)
              rw [key _ _ c, key _ _ c, wipe_length]
            · rw [wipe_out c]
          refine ⟨hw4, ra, _, F4, e3, R4, ?_⟩
          have sf4 := (s2.trans s3).trans s4
          cases et : t e3 with
          | err =>
            rw [et] at h2
            cases h2
          | exc x e5 =>
            rw [et] at h2
            cases h2
          | ok c e5 =>
            rw [et] at h2
            simp only at h2
            intro b F5 H5 s5 R5 hb
            have hb' : b = c := hb
            subst hb'
            cases b with
            | false =>
              simp only [Bool.false_eq_true, if_false] at h2 ⊢
              have R6 := R5.wipe vs
              rw [hw4] at R6
              exact ⟨F5, _, acc, dacc, sf4.trans s5, R6, ra2.mono ((s3.trans s4).trans s5), hz2, h2⟩
            | true =>
              simp only [if_true] at h2 ⊢
              refine ⟨ra, _, F5, e5, R5, ?_⟩
              try unfold bindM at h2
              cases ee : el e5 with
              | err =>
                rw [ee] at h2
                cases h2
              | exc x e6 =>
                rw [ee] at h2
                cases h2
              | ok y e6 =>
                rw [ee] at h2
                simp only at h2
                intro yv F6 H6 s6 R6 ry
                unfold small at h2
                by_cases hz : (dacc ++ [y]).length ≤ 1000000
                · simp only [if_pos hz] at h2
                  have st : Same F2 F6 := ((s3.trans s4).trans s5).trans s6
                  have rA : RepA w K ra F6 acc dacc := ra2.mono st
                  have hD6 : H6 D = some (.lst acc) := R6.kh D _ (by show upd HK.h D _ D = _; exact upd_same)
                  have l1 : acc.length < sizeLine := by
                    rw [rA.length]
                    rw [List.length_append] at hz
                    have : (1000000 : Nat) ≤ sizeLine := by decide
                    simp at hz
                    omega
                  have R7 := (R6.repin (u' := .lst (acc ++ [yv]))).wipe vs
                  rw [hw4] at R7
                  refine ⟨acc, hD6, l1, F6, _, acc ++ [yv], dacc ++ [y], (sf4.trans s5).trans s6, R7, rA.append (.cons ry .nil), Nat.le_trans hz (by decide), h2⟩
                · simp only [if_neg hz] at h2
                  cases h2
      · have ei : i = ds.length := by omega
        subst ei
        rw [List.drop_length] at h2
        unfold lcGo pureM at h2
        cases h2
        obtain ⟨R3, fD, nD, hD2, nd⟩ := R2.unpin kD hpn
        refine .inl ⟨ok.stop _ F2 H2 s2 R2.fh rfl, ?_⟩
        have R4 := R3.rest R1 s2 hn
        refine q _ F2 H2 (s1.trans s2) R4 ⟨D, rfl, ⟨acc, hD2, ra2⟩, fD, kD, nD, notIn_rest nd hn⟩
  · simp only [if_neg hn] at q
    exact q.elim
section
variable {X : Cx} {W : WX} {elt tg iter : Expr} {ifs : List Expr} {scope : Scope} {own : List (Str × Nat)} {pos : Pos} {mi : M (List D)} {g : D → M Unit} {t : M Bool} {el : M D} {is : List Nat}
theorem pmo_lc (hi : PIM X W tg iter mi)
    (hg : ∀ (s : Shared) (H : Hp) (C : Addr) (cl : List (Str × Addr)) (fp : List Addr), PGM (X.blk s H scope (compEnvC scope cl C X.env) fp) tg is g) (ht : ∀ (s : Shared) (H : Hp) (C : Addr) (cl : List (Str × Addr)) (fp : List Addr), PMTs (X.blk s H scope (compEnvC scope cl C X.env) fp) WN ifs t)
    (he : ∀ (s : Shared) (H : Hp) (C : Addr) (cl : List (Str × Addr)) (fp : List Addr), PM (X.blk s H scope (compEnvC scope cl C X.env) fp) WN elt el) (hc : X.calm = true) (hN : X.N.Nodup) (own : List (Str × Nat)) (ok : blkC X.N X.env.scope scope own = true := by rfl) (hsub : ∀ i ∈ is, i ∈ own.map (·.2) := by decide) (hs : ∀ x, foldedSetIterable iter X.env x = pure x := by intro _; rfl) :
    PMO X W (.ListComp elt [⟨tg, iter, ifs, 0⟩] scope pos) (lcM mi g t el (own.map (·.2))) :=
  PE.weaken (pe_lc (g := tT X.w X.K is g) (tt := tG TB X.w X.K WN t) (te := tG TV X.w X.K WN el) hc hN hi (blkOk_by ok) hg ht he hs) fun σ H Q h => lc_read hsub h
theorem psm_setLc (i : Nat) {y : Str} {py spos : Pos} (hi : PIM X W tg iter mi)
    (hg : ∀ (s : Shared) (H : Hp) (C : Addr) (cl : List (Str × Addr)) (fp : List Addr), PGM (X.blk s H scope (compEnvC scope cl C X.env) fp) tg is g) (ht : ∀ (s : Shared) (H : Hp) (C : Addr) (cl : List (Str × Addr)) (fp : List Addr), PMTs (X.blk s H scope (compEnvC scope cl C X.env) fp) WN ifs t)
    (he : ∀ (s : Shared) (H : Hp) (C : Addr) (cl : List (Str × Addr)) (fp : List Addr), PM (X.blk s H scope (compEnvC scope cl C X.env) fp) WN elt el) (hc : X.calm = true) (hN : X.N.Nodup) (own : List (Str × Nat)) (ok : blkC X.N X.env.scope scope own = true := by rfl) (hsub : ∀ i ∈ is, i ∈ own.map (·.2) := by decide) (hy : X.N[i]? = some y := by rfl) (hyl : X.env.scope.names.lookup y = some .local := by rfl)
    (hsw : swapsWith (.ListComp elt [⟨tg, iter, ifs, 0⟩] scope pos) (some (.Name y py)) spos.line X.env = pure true := by rfl) (hs : ∀ x, foldedSetIterable iter X.env x = pure x := by intro _; rfl) :
    PSM X W (.Assign [.Name y py] (.ListComp elt [⟨tg, iter, ifs, 0⟩] scope pos) spos) (asgO i (lcM mi g t el (own.map (·.2)))) := by
  refine PS.weaken (ps_setLc (g := tT X.w X.K is g) (tt := tG TB X.w X.K WN t) (te := tG TV X.w X.K WN el) hc hN hy hyl hsw hi (blkOk_by ok) hg ht he hs) ?_
  rintro D' σ H ⟨ra, HK, F, e, R, h⟩
  unfold asgO at h
  refine lc_read hsub (stepS R h fun F1 e1 o v H1 s1 R1 r1 q1 => ?_)
  obtain ⟨h1, q2⟩ := wp_setM q1
  exact q2 _ F1 H1 (Same.refl F1) (R1.setOwn h1 r1)
end
end Mi

set_option Elab.async false
set_option linter.all false
set_option maxRecDepth 100000
set_option maxHeartbeats 4000000
/-! Mi, part P: lists of one's own changed; calls; raise. -/
namespace Mi
open PySem PySem.Spec PyProof.Rows L2
section
variable {w : World} {K : PySem.W.Frag} {ra : Addr} {HK : Kp} {F F' H H' : Hp} {e : Env} {σ : St}
/-- a container of one's own is changed -/
theorem Rel.store (R : Rel w K ra HK F e σ H) {i : Nat} {o o' : OD} {a : Addr} {u : HO} (h : e.sl[i]? = some (.own o)) (hs : σ[i]? = some (some (.ref a))) (r : RepO w K ra F (upd H a u) a o') : Rel w K ra HK F { e with sl := e.sl.set i (.own o') } σ (upd H a u) := by
  obtain ⟨a', e1, r0, fa, ka, na⟩ := R.sl i _ h
  rw [hs] at e1
  cases e1
  have hi : i < e.sl.length := (List.getElem?_eq_some_iff.mp h).1
  have hi' : i < σ.length := by rw [← R.len]; exact hi
  have other : ∀ (j : Nat) (s : Slot) (b p : Addr), i ≠ j → e.sl[j]? = some s → s.isC = true → σ[j]? = some (some (.ref b)) → Foot H s b p → p ≠ a := fun j s b p c hj sc eq f z => R.sep i j _ s a b p c h hj rfl sc hs eq (.inl z) f
  have sep2 : Sep { e with sl := e.sl.set i (.own o') } (σ.set i (some (.ref a))) (upd H a u) := by
    have S0 : Sep { e with sl := e.sl.set i (.own o') } (σ.set i (some (.ref a))) H := R.sep.on hi' fun j s' a' p hij h2 c2 hs2 f f2 => by
      rcases f with rfl | ⟨z, _⟩
      · exact other j s' a' _ hij h2 c2 hs2 f2 rfl
      · cases z
    intro j k s1 s2 b b' p hjk h1 h2 c1 c2 h3 h4 f f2
    rw [set_id hs] at h3 h4
    have back : ∀ {m : Nat} {t : Slot} {b : Addr}, (e.sl.set i (.own o'))[m]? = some t → t.isC = true → σ[m]? = some (some (.ref b)) → Foot (upd H a u) t b p → Foot H t b p := fun {m t b} hm tc hb f => by
      by_cases c : i = m
      · subst c
        rw [List.getElem?_set_self hi] at hm
        cases hm
        rcases f with rfl | ⟨z, _⟩
        · exact .inl rfl
        · cases z
      · rw [List.getElem?_set_ne c] at hm
        exact (Foot.congr (upd_ne (other m t b b c hm tc hb (.inl rfl)))).mp f
    exact S0 j k s1 s2 b b' p hjk h1 h2 c1 c2 (by rw [set_id hs]; exact h3) (by rw [set_id hs]; exact h4) (back h1 c1 h3 f) (back h2 c2 h4 f2)
  rw [set_id hs] at sep2
  refine ⟨fun b z q => ?_, fun b z q => ?_, by rw [List.length_set]; exact R.len, fun j s hj => ?_, sep2, R.row.mono (Same.refl F) (upd_ne (Ne.symm na)), R.fra, R.kra, R.pn⟩
  · rw [upd_ne (ne_of_none q fa)]
    exact R.fh b z q
  · rw [upd_ne (ne_of_none q ka)]
    exact R.kh b z q
  · by_cases c : i = j
    · subst c
      rw [List.getElem?_set_self hi] at hj
      cases hj
      exact ⟨a, hs, r, fa, ka, na⟩
    · rw [List.getElem?_set_ne c] at hj
      exact (R.sl j s hj).mono (Same.refl F) fun q hc eq p hf => ⟨upd_ne (other j s q p c hj hc eq hf), rfl⟩
end
/-! ### xs.append(e), xs.extend(e), xs.pop() -/
/-- the name is a list of one's own -/
def ownL (i : Nat) : M (List D) := fun e => match e.sl[i]? with
  | some (.own (.lst l)) => .ok l e
  | _ => .err
theorem wp_ownL {β : Type} {i : Nat} {g : List D → M β} {e : Env} {A : β → Env → Prop} {B : Exn → Env → Prop} (h : (bindM (ownL i) g e).wp A B) : ∃ l, e.sl[i]? = some (.own (.lst l)) ∧ (g l e).wp A B := by
  unfold bindM ownL at h
  cases q : e.sl[i]? with
  | none =>
    simp only [q] at h
    exact h.elim
  | some s =>
    cases s with
    | own o =>
      cases o with
      | lst l =>
        simp only [q] at h
        exact ⟨l, rfl, h⟩
      | dct l =>
        simp only [q] at h
        exact h.elim
    | _ =>
      simp only [q] at h
      exact h.elim
def appM (i : Nat) (m : M D) : M Fl := bindM (ownL i) fun _ => bindM m fun d => bindM (ownL i) fun l => bindM (small (l ++ [d])) fun _ => bindM (setM i (.own (.lst (l ++ [d])))) fun _ => pureM .nx
section
variable {X : Cx} {W : WX} {e : Expr} {m : M D} {pos apos cpos p : Pos} {x : Str}
theorem psm_append (i : Nat) (hm : PM X W e m) (hN : X.N[i]? = some x := by rfl) (hv : Vis X.env.scope x := by first | exact Or.inl rfl | exact Or.inr (Or.inl rfl) | exact Or.inr (Or.inr rfl)) (hd : (x == ("__debug__" : Str)) = false := by decide) (hcd : (x == ("__classdict__" : Str)) = false := by decide)
    (hbase : attributeBase (.Name x p) "append" X.env (eval (.Name x p) X.env) = eval (.Name x p) X.env := by rfl)
    (hfew : ((backTo cpos (starEach [e] X.env)).all (fun x => !x.1) && (backToKw cpos (keywordEach [] X.env)).all (fun x => x.1.isSome)
      && decide ([e].length + ([] : List Keyword).length + (if ([] : List Keyword).isEmpty then 0 else 1) < 30)) = true := by rfl)
    (hline : (apos.endLine == cpos.line) = true := by rfl) (hs : starEach [e] X.env = (false, eval e X.env) :: starEach [] X.env := by rfl) (hplain : (backTo cpos (starEach [] X.env)).any (·.1) = false := by rfl)
    (hsw : swapsWith (.Call (.Attribute (.Name x p) "append" apos) [e] [] cpos) none pos.line X.env = pure false := by rfl) : PSM X W (.Expr (.Call (.Attribute (.Name x p) "append" apos) [e] [] cpos) pos) (appM i m) := by
  refine PS.weaken (ps_expr (pe_bm PySem.F.plainAttrs_list PySem.F.slot_list_append PySem.F.type_list_append mt_append (pe_var hN hv hd hcd) (pa_cons hm pa_nil hs) hbase hfew hline hs hplain) hsw) ?_
  rintro D' σ H ⟨ra, HK, F, e, R, h⟩
  unfold appM at h
  obtain ⟨l, q, h1⟩ := wp_ownL h
  obtain ⟨a, e1, ⟨vs, hH, rp⟩, _⟩ := R.sl i _ q
  refine ⟨.ref a, e1, .inl ⟨rfl, vs, .of hH⟩, ?_⟩
  refine stepS R h1 fun F1 e1' d u H1 s1 R1 r1 q1 => ?_
  obtain ⟨l2, q2, h2⟩ := wp_ownL q1
  obtain ⟨hz, h3⟩ := wp_small h2
  obtain ⟨hl, h4⟩ := wp_setM h3
  obtain ⟨a2, e2, ⟨vs2, hH2, rp2⟩, _⟩ := R1.sl i _ q2
  rw [e1] at e2
  cases e2
  refine ⟨a, vs2, u, rfl, rfl, hH2, ?_, h4 _ F1 _ (Same.refl F1) (R1.store q2 e1 ⟨_, upd_same, rp2.append (.cons r1 .nil)⟩)⟩
  rw [rp2.length]
  rw [List.length_append] at hz
  exact hz
end
/-! ### calls -/
inductive FRes where
  | ret (d : D) (r : RowS) | exc (x : Exn) (r : RowS) | err
/-- what a def is to the mirror -/
abbrev FnM : Type := List D → RowS → FRes
/-- a state behind a call -/
structure Aft (ra : Addr) (F H F' H' : Hp) (row' : RowS) : Prop where
  f : Same F F'
  fh : Same F' H'
  fra : F' ra = none
  row : RowOk ra F' H' row'
  kept : ∀ b u, H b = some u → b ≠ ra → H' b = some u
  pn : ∀ b, H b ≠ none → F b = none → F' b = none
def spM (w : World) (K : PySem.W.Frag) (n : Nat) (f : FnM) : Sp := fun vs H Q E => ∃ ra F ds row, Same F H ∧ F ra = none ∧ RowOk ra F H row ∧ RepA w K ra F vs ds ∧ ds.length = n ∧ (match f ds row with
  | .ret d row' => ∀ F' H' v, Aft ra F H F' H' row' → Rep w K ra F' v d → Q v H'
  | .exc x row' => ∀ F' H' cls dd, Aft ra F H F' H' row' → ExIs w K ra F' H' x cls dd → E cls dd H'
  | .err => False)
/-- a body as a function: k more names behind the n parameters -/
def fnM (k : Nat) (b : M Fl) : FnM := fun ds row => match b ⟨ds.map Slot.val ++ List.replicate k .no, row⟩ with
  | .ok (.rt d) e => .ret d e.row
  | .ok .nx e => .ret .non e.row
  | .ok _ _ => .err
  | .exc x e => .exc x e.row
  | .err => .err
structure Fn (P : Program) (w : World) (K : PySem.W.Frag) (mg : Str → Option Value) (base : Heap) (x : Str) (k n : Nat) (g : FnM) : Prop where
  ex : ∃ f fd ps, FnOk P w K mg base (L2.CX P w) k f fd ps (spM w K n g) ∧ mg x = some (.ref f) ∧ PySem.W.keepIn K (.ref f) = true ∧ Binds K fd ps []
theorem Fn.mono {P : Program} {w : World} {K : PySem.W.Frag} {mg : Str → Option Value} {base : Heap} {x : Str} {k k' n : Nat} {g : FnM} (F : Fn P w K mg base x k n g) (h : k ≤ k') : Fn P w K mg base x k' n g :=
  let ⟨f, fd, ps, F1, a, b, c⟩ := F.ex
  ⟨f, fd, ps, F1.mono h, a, b, c⟩
def callM (f : FnM) (r : M (List D)) : M D := bindM r fun ds e => match f ds e.row with
  | .ret d row' => .ok d { e with row := row' }
  | .exc x row' => .exc x { e with row := row' }
  | .err => .err
theorem Rel.after {w : World} {K : PySem.W.Frag} {ra : Addr} {HK : Kp} {F F' H H' : Hp} {e : Env} {σ : St} {row' : RowS} (R : Rel w K ra HK F e σ H) (a : Aft ra F H F' H' row') : Rel w K ra HK F' { e with row := row' } σ H' := by
  have kp : ∀ b, F b = none ∧ HK.h b = none ∧ b ≠ ra ∧ H b ≠ none → H' b = H b := fun b hb => by
    cases ez : H b with
    | none => exact absurd ez hb.2.2.2
    | some u => exact a.kept b u ez hb.2.2.1
  refine ⟨a.fh, fun b u q => a.kept b u (R.kh b u q) (fun z => by rw [z, R.kra] at q; cases q), R.len, fun i s h => ?_, R.sep.heap fun i s b h c hs => kp b (R.foot h c hs (.inl rfl)), a.row, a.fra, R.kra, fun b hb => ⟨(R.pn b hb).1, ?_⟩⟩
  · refine (R.sl i s h).mono a.f fun q hc eq p hf => ?_
    have g := R.foot h hc eq hf
    refine ⟨kp p g, ?_⟩
    rw [g.1]
    exact a.pn p g.2.2.2 g.1
  · refine a.pn b ?_ (R.pn b hb).2
    cases ez : HK.h b with
    | none => exact absurd ez (R.pn b hb).1
    | some u =>
      rw [R.kh b u ez]
      exact fun z => by cases z
section
variable {X : Cx} {W : WX} {x : Str} {k k' n : Nat} {g : FnM} {e : Expr} {es : List Expr} {p pos : Pos} {r : M (List D)}
theorem call_read {n : Nat} {ta : TA} {te : TE} {σ : St} {H : Hp} {Q : VK} (h : tG TV X.w X.K W (callM g r) σ H Q) (hn : ∀ e ds e', r e = .ok ds e' → ds.length = n) : tCallS (spM X.w X.K n g) (WE W) (tG TAs X.w X.K W r) σ H Q := by
  obtain ⟨ra, HK, F, e, R, h⟩ := h
  unfold callM at h
  have h0 := wp_bind.mp h
  refine ⟨ra, HK, F, e, R, ?_⟩
  cases er : r e with
  | err =>
    rw [er] at h0
    exact h0
  | exc x e1 =>
    rw [er] at h0
    exact h0
  | ok ds e1 =>
    rw [er] at h0
    intro vs F1 H1 s1 R1 r1
    refine ⟨ra, F1, ds, e1.row, R1.fh, R1.fra, R1.row, r1, hn _ _ _ er, ?_⟩
    have h1 : Res.wp (match g ds e1.row with
      | .ret d row' => Res.ok d { e1 with row := row' }
      | .exc x row' => Res.exc x { e1 with row := row' }
      | .err => Res.err) (okG TV X.w X.K ra HK F σ Q) (exW X.w X.K ra HK F W) := h0
    cases eg : g ds e1.row with
    | err =>
      rw [eg] at h1
      exact h1
    | ret d row' =>
      rw [eg] at h1
      exact fun F' H' v a rv => h1 v F' H' (s1.trans a.f) (R1.after a) rv
    | exc x row' =>
      rw [eg] at h1
      exact fun F' H' cls dd a hx => h1 cls dd σ F' H' (s1.trans a.f) (R1.after a) hx
theorem pm_call (F : Fn X.prog X.w X.K X.mg X.base x k n g) (hr : Room k' X.A) (tk : Takes X W) (ha : PMA X W (e :: es) r) (hn : ∀ e ds e', r e = .ok ds e' → ds.length = n) (hk : k ≤ k' := by decide) (hg : Gl X x := by rfl)
    (hdb : (x == ("__debug__" : Str)) = false := by decide) (he : starEach (e :: es) X.env = (false, eval e X.env) :: starEach es X.env := by rfl) (hpl : (backTo pos (starEach es X.env)).any (·.1) = false := by rfl) : PM X W (.Call (.Name x p) (e :: es) [] pos) (callM g r) := by
  obtain ⟨f, fd, ps, F1, hm, kp, hb⟩ := F.ex
  exact PE.weaken (pe_callS F1 (hr.mono hk) hg hm kp hb (fun σ => passAt tk σ) ha hdb he hpl) fun σ H Q h => call_read (ta := tG TAs X.w X.K W r) (te := fun _ _ _ => False) h hn
theorem nil_len : ∀ (e : Env) (ds : List D) (e' : Env), (pureM [] : M (List D)) e = .ok ds e' → ds.length = 0 := fun e ds e' h => by
  cases h
  rfl
theorem cons_len {m : M D} {r : M (List D)} {n : Nat} (h : ∀ e ds e', r e = .ok ds e' → ds.length = n) : ∀ e ds e', consM m r e = .ok ds e' → ds.length = n + 1 := fun e ds e' hc => by
  unfold consM bindM at hc
  cases em : m e with
  | err =>
    rw [em] at hc
    cases hc
  | exc x e1 =>
    rw [em] at hc
    cases hc
  | ok d e1 =>
    rw [em] at hc
    simp only at hc
    cases er : r e1 with
    | err =>
      rw [er] at hc
      cases hc
    | exc x e2 =>
      rw [er] at hc
      cases hc
    | ok l e2 =>
      rw [er] at hc
      cases hc
      rw [List.length_cons, h _ _ _ er]
end
/-! ### a def's promise -/
section
variable {P : Program} {w : World} {K : PySem.W.Frag} {mg : Str → Option Value} {base : Heap} {x qual : Str} {params : Arguments} {body : List Stmt} {scope : Scope} {kws : List (Str × V)} {f : Addr} {fd : FuncData}
/-- the state at a def's entry -/
theorem rel_start {ra : Addr} {F H : Hp} {N : List Str} {vs : List V} {ds : List D} {row : RowS} (hf : Same F H) (fra : F ra = none) (ro : RowOk ra F H row) (rp : RepA w K ra F vs ds) (k : Nat) (hk : N.length - vs.length = k) :
    Rel w K ra ⟨fun b => if b = ra then none else H b, fun b => H b ≠ none ∧ F b = none ∧ b ≠ ra, .non⟩ F ⟨ds.map Slot.val ++ List.replicate k .no, row⟩ (L2.start N vs) H := by
  subst hk
  have nown : ∀ (i : Nat) (o : Slot), o.isC = true → (ds.map Slot.val ++ List.replicate (N.length - vs.length) Slot.no)[i]? ≠ some o := fun i o hc h => by
    rw [List.getElem?_append] at h
    split at h
    · rw [List.getElem?_map] at h
      cases q : ds[i]? with
      | none =>
        rw [q] at h
        cases h
      | some d =>
        rw [q] at h
        cases h
        cases hc
    · rw [List.getElem?_replicate] at h
      split at h
      · cases h
        cases hc
      · cases h
  refine ⟨hf, fun b u q => ?_, ?_, fun i s h => ?_, fun i j o o' a a' p _ h _ c _ _ _ => absurd h (nown i o c), ro, fra, if_pos rfl, fun b hb => ⟨?_, hb.2.1⟩⟩
  · by_cases c : b = ra
    · simp only [if_pos c] at q
      cases q
    · simp only [if_neg c] at q
      exact q
  · simp [L2.start, rp.length]
  · have h' : (ds.map Slot.val ++ List.replicate (N.length - vs.length) Slot.no)[i]? = some s := h
    rw [List.getElem?_append] at h'
    split at h'
    · rename_i hl
      rw [List.getElem?_map] at h'
      cases q : ds[i]? with
      | none =>
        rw [q] at h'
        cases h'
      | some d =>
        rw [q] at h'
        cases h'
        obtain ⟨v, hv, rv⟩ := rp.get q
        refine ⟨v, ?_, rv⟩
        unfold L2.start
        have hvl : i < vs.length := (List.getElem?_eq_some_iff.mp hv).1
        rw [List.getElem?_append_left (by simpa using hvl), List.getElem?_map, hv]
        rfl
    · rw [List.getElem?_replicate] at h'
      split at h'
      · cases h'
        trivial
      · cases h'
  · show (if b = ra then none else H b) ≠ none
    rw [if_neg hb.2.2]
    exact hb.1
theorem aft_of {ra : Addr} {F H F' H' : Hp} {e' : Env} {σ' : St} {p : V} (R' : Rel w K ra ⟨fun b => if b = ra then none else H b, fun b => H b ≠ none ∧ F b = none ∧ b ≠ ra, p⟩ F' e' σ' H') (s : Same F F') : Aft ra F H F' H' e'.row where
  f := s
  fh := R'.fh
  fra := R'.fra
  row := R'.row
  kept := fun b u q hb => R'.kh b u (by show (if b = ra then none else H b) = some u; rw [if_neg hb]; exact q)
  pn := fun b h1 h2 => by
    by_cases c : b = ra
    · rw [c]
      exact R'.fra
    · exact (R'.pn b ⟨h1, h2, c⟩).2
/-- THE RULE for a def -/
theorem fn_ok {N ps : List Str} {k n j : Nat} {b : M Fl} (FD : FunD K x qual params body scope [] kws f fd) (S : FnScope N ps scope) (hm : mg x = some (.ref f)) (hb : Binds K fd ps []) (hn : ps.length = n) (hj : N.length - n = j)
    (hbody : ∀ (cdv : Value) (A : Around) (outer : List PySem.Env) (s : Shared) (H : Hp) (E : XK), Room k (A.deeper (envOfC qual scope s.heap.objs.size f cdv)) → Takes (cxOf (L2.CX P w) P w K mg base N qual scope f cdv A outer s H E) (fun cls d _ H' => E cls d H') →
      PSsM (cxOf (L2.CX P w) P w K mg base N qual scope f cdv A outer s H E) (fun cls d _ H' => E cls d H') body b) : Fn P w K mg base x (k + 1) n (fnM j b) := by
  refine ⟨f, fd, ps, FD.ok S (fun vs H Q E h => ?_) (fun cdv A outer s H vs Q E hr h => ?_), hm, FD.kp, hb⟩
  · obtain ⟨ra, F, ds, row, _, _, _, rp, hl, _⟩ := h
    rw [rp.length, hl, hn]
  · have tk : Takes (cxOf (L2.CX P w) P w K mg base N qual scope f cdv A outer s H E) (fun cls d _ H' => E cls d H') := takes_of rfl rfl rfl rfl
    refine ⟨_, hbody cdv A outer s H E hr tk, ?_⟩
    obtain ⟨ra, F, ds, row, hf, fra, ro, rp, hl, h⟩ := h
    have R := rel_start (N := N) hf fra ro rp j (by rw [rp.length, hl]; exact hj)
    refine ⟨ra, _, F, _, R, ?_⟩
    unfold fnM at h
    show Res.wp _ _ _
    cases eb : b ⟨ds.map Slot.val ++ List.replicate j .no, row⟩ with
    | err =>
      rw [eb] at h
      exact h
    | exc y e' =>
      rw [eb] at h
      exact fun cls d σ' F' H' s' R' hx => h F' H' cls d (aft_of R' s') hx
    | ok fl e' =>
      rw [eb] at h
      intro σ' F' H' s' R'
      cases fl with
      | nx => exact h F' H' .non (aft_of R' s') .non
      | rt d => exact fun v rv => h F' H' v (aft_of R' s') rv
      | bk => exact h.elim
      | ct => exact h.elim
end
/-! ### raise -/
/-- an own class of errors without an own __init__ -/
structure ExcF (K : PySem.W.Frag) (mg : Str → Option Value) (x : Str) : Prop where
  q : PySem.W.excIn K (He.ga K x) He.veBase "ValueError.__new__" = true
  kC : PySem.W.keepIn K (.ref (He.ga K x)) = true
  sb : PySem.W.subIn K (.ref (He.ga K x)) (.type "BaseException") = some true
  ty : PySem.W.typeIn K (.ref (He.ga K x)) = some (.type "type")
  g : mg x = some (.ref (He.ga K x))
section
variable {X : Cx} {W : WX} {x : Str} {p pos pos2 : Pos}
theorem pmk_own0 (F : ExcF X.K X.mg x) (hg : Gl X x) (hdb : (x == ("__debug__" : Str)) = false := by decide) : PMk X (.Call (.Name x p) [] [] pos) (fun _ H Q => Q (.ref (He.ga X.K x)) none H) := by
  intro pins s σ H Q I h
  refine wpAny_Call_Name_kw (ld_glob I hg F.g ?_ hdb)
  refine PySem.W.callWith_K0 I.kIn F.kC ?_
  show wpAny _ _ (call (.ref (He.ga X.K x)) []) _ _ _
  obtain ⟨bm, N, nm, qn, bs, hdct, sn, sub, ab, col, dd, k0, k1, k2, k3, k5, mN, hC, hN, hni, T⟩ := exc_obj I.kIn F.q
  refine wpAny_call_exc_subT PySem.F.excBase_ValueError T hC hN hni (fun h' e hm => ?_) (Nat.zero_le _)
  exact mk_of I hm (raises_own F.sb F.ty) h (I.hok.gone hm.new)
def raiseM (c : Str) : M Fl := fun e => .exc ⟨c, []⟩ e
theorem psm_raise0 (F : ExcF X.K X.mg x) (tk : Takes X W) (hc : X.calm = true := by rfl) (hg : Gl X x := by rfl) (hdb : (x == ("__debug__" : Str)) = false := by decide) : PSM X W (.Raise (some (.Call (.Name x p) [] [] pos)) none pos2) (raiseM x) := by
  refine PS.weaken (ps_raise hc tk (pmk_own0 F hg hdb)) ?_
  rintro D' σ H ⟨ra, HK, F1, e, R, h⟩
  exact h _ none σ F1 H (Same.refl F1) R ⟨rfl, .inl ⟨rfl, rfl⟩⟩
end
end Mi

set_option Elab.async false
set_option linter.all false
set_option maxRecDepth 100000
set_option maxHeartbeats 4000000
/-! Mi, part Q: Rule(..), try, dead code. -/
namespace Mi
open PySem PySem.Spec PyProof.Rows L2
section
variable {X : Cx} {W : WX}
/-! ### what is never reached -/
theorem pm_dead {e : Expr} : PM X W e errM := ⟨fun pins s σ H Q I h => by
  obtain ⟨ra, HK, F, e, R, h⟩ := h
  exact h.elim⟩
/-! ### Rule(..) -/
/-- a def's body of which the end is told by hand -/
theorem pssi_nil {stores : List Stmt} {u : TS} (h : PSs X stores u) : PSs X stores (fun D' σ H => tS X.w X.K W nxM { D' with nx := u D' } σ H) := ⟨fun pins s σ H D' I hw => by
  obtain ⟨ra, HK, F, e, R, hw⟩ := hw
  exact h.run pins s σ H D' I (hw σ F H (Same.refl F) R)⟩
theorem pssi_cons {st : Stmt} {rest : List Stmt} {m n : M Fl} {u : TS} (h1 : PSM X W st m) (h2 : PSs X rest (fun D' σ H => tS X.w X.K W n { D' with nx := u D' } σ H)) : PSs X (st :: rest) (fun D' σ H => tS X.w X.K W (seqM m n) { D' with nx := u D' } σ H) := by
  refine PSs.weaken (pss_cons h1 h2) ?_
  rintro D' σ H ⟨ra, HK, F, e, R, h⟩
  unfold seqM at h
  refine ⟨ra, HK, F, e, R, wp_mono (wp_bind.mp h) (fun fl e' q σ' F' H' s R' => ?_) fun _ _ q => q⟩
  cases fl with
  | nx => exact ⟨ra, HK, F', e', R', wp_mono q (fun _ _ z => okS_mono s z) fun _ _ z => exW_mono s z⟩
  | bk => exact q σ' F' H' s R'
  | ct => exact q σ' F' H' s R'
  | rt d => exact q σ' F' H' s R'
end
/-- what a Rule's __init__ keeps: vs 0 is the new object -/
def spI (w : World) (K : PySem.W.Frag) (f : FnM) : Sp := fun vs H Q E => ∃ ra F ds row x dx us, vs = .ref x :: us ∧ Same F H ∧ F ra = none ∧ RowOk ra F H row ∧ RepA w K ra F us ds ∧ ds.length = 5 ∧
  H x = some (.ins (He.ga K "Rule") dx []) ∧ F x = none ∧ x ≠ ra ∧ (match f ds row with
  | .ret (.obj es) row' => ∀ F' H' H'' us', Aft ra F H F' H' row' → RepA w K ra F' us' es → us'.length = 5 → H'' x = some (.ins (He.ga K "Rule") dx (ruleF us')) → (∀ b, b ≠ x → H'' b = H' b) → Q .non H''
  | .ret _ _ => False
  | .exc y row' => ∀ F' H' cls dd, Aft ra F H F' H' row' → ExIs w K ra F' H' y cls dd → E cls dd H'
  | .err => False)
/-- the body, but for the stores -/
def initEnd (sl : List Slot) : Option (List D) := match sl with
  | .pin :: .val d1 :: .val d2 :: .val d3 :: .val d4 :: .val d5 :: _ => some [d1, d2, d3, d4, d5]
  | _ => none
theorem initEnd_inv {sl : List Slot} {l : List D} (h : initEnd sl = some l) : ∃ d1 d2 d3 d4 d5 r, sl = .pin :: .val d1 :: .val d2 :: .val d3 :: .val d4 :: .val d5 :: r ∧ l = [d1, d2, d3, d4, d5] := by
  unfold initEnd at h
  split at h
  · cases h
    exact ⟨_, _, _, _, _, _, rfl, rfl⟩
  · cases h
def initM (b : M Fl) : FnM := fun ds row => match b ⟨.pin :: ds.map Slot.val ++ [.no, .no], row⟩ with
  | .ok .nx e => (match initEnd e.sl with
    | some l => .ret (.obj l) e.row
    | none => .err)
  | .ok _ _ => .err
  | .exc x e => .exc x e.row
  | .err => .err
structure MkF (P : Program) (w : World) (K : PySem.W.Frag) (mg : Str → Option Value) (base : Heap) (k : Nat) (g : FnM) : Prop where
  ex : ∃ f fd ps, FnOk P w K mg base (L2.CX P w) k f fd ps (spI w K g) ∧ mg "Rule" = some (.ref (He.ga K "Rule")) ∧ Binds K fd ps [] ∧ Mk K (He.ga K "Rule") f
section
variable {X : Cx} {W : WX} {k k' : Nat} {g : FnM} {e : Expr} {es : List Expr} {p pos : Pos} {r : M (List D)}
theorem run_makeS {CX : CXT} {f C : Addr} {fd : FuncData} {ps : List Str} {sp : Sp} {E : St → XK} {pins : List (Addr × Obj)} {σ : L2.St} {H : Hp} {s : Shared} {Q : VK} {us : List Value} {vs : List V} (M : Mk X.K C f) (F1 : FnOk X.prog X.w X.K X.mg X.base CX k f fd ps sp) (hr : Room (k + 1) X.A) (hb : Binds X.K fd ps [])
    (hx : PassesAt CX X σ (E σ)) (I : Inv X pins σ H s) (r : Vals vs us)
    (h : ∀ x dx, H x = none → H dx = none → dx ≠ x → sp (.ref x :: vs) (upd (upd H dx (.own x)) x (.ins C dx [])) (fun v H2 => v = .non ∧ Q (.ref x) H2) (E σ)) :
    wpAny (model X.prog X.w) X.A (call (.ref C) us) (EP X pins σ Q) X.xe s := by
  have hq := h (s.heap.objs.size + 1) s.heap.objs.size (I.hok.fresh (Nat.le_succ _)) (I.hok.fresh (Nat.le_refl _)) (Nat.ne_of_lt (Nat.lt_succ_self _))
  have J := Inv.made (C := C) I
  have rr : Vals (V.ref (s.heap.objs.size + 1) :: vs) (Value.ref (s.heap.objs.size + 1) :: us) := .cons rfl r
  have el : (Value.ref (s.heap.objs.size + 1) :: us ++ []).length = ps.length := by rw [List.append_nil, ← rr.length, F1.len _ _ _ _ hq]
  have bb := hb _ (Value.ref (s.heap.objs.size + 1) :: us) J.kIn el
  rw [List.append_nil] at bb
  refine wpAny_call (make_map (f := f) I.kIn M.makes M.init (beq_iff_eq.mp M.fn) (codeAny_mono (F1.run _ X.stack _ _ ⟨Value.ref (s.heap.objs.size + 1) :: us, []⟩ (Value.ref (s.heap.objs.size + 1) :: us) _ _ (E σ) (hr.make C us []) (J.env0.make C us []) bb rr hq) fun z s' hz => ?_))
  cases z with
  | error er => exact hx pins _ _ er s' J hz
  | ok fl =>
    cases fl with
    | ret u =>
      obtain ⟨v, H', J3, rv, ev, q3⟩ := J.after hz
      subst ev
      exact ⟨rv, ⟨V.ref (s.heap.objs.size + 1), H', J3, rfl, q3⟩⟩
    | next => exact False.elim hz
    | brk => exact False.elim hz
    | cont => exact False.elim hz
theorem pm_make (F0 : MkF X.prog X.w X.K X.mg X.base k g) (hr : Room k' X.A) (tk : Takes X W) (ha : PMA X W (e :: es) r) (hn : ∀ e ds e', r e = .ok ds e' → ds.length = 5) (hret : ∀ ds row d row', g ds row = .ret d row' → ∃ l, d = .obj l) (hk : k + 1 ≤ k' := by decide) (hg : Gl X "Rule" := by rfl)
    (he : starEach (e :: es) X.env = (false, eval e X.env) :: starEach es X.env := by rfl) (hpl : (backTo pos (starEach es X.env)).any (·.1) = false := by rfl) : PM X W (.Call (.Name "Rule" p) (e :: es) [] pos) (callM g r) := by
  obtain ⟨f, fd, ps, F1, hm, hb, M⟩ := F0.ex
  refine ⟨fun pins s σ H Q I h => ?_⟩
  refine wpAny_Call_Name_kw (ld_glob I hg hm ?_ (by decide))
  obtain ⟨ra, HK, F, e0, R, h⟩ := h
  unfold callM at h
  have h0 := wp_bind.mp h
  have key : tG TAs X.w X.K W r σ H fun vs H1 => ∀ x dx, H1 x = none → H1 dx = none → dx ≠ x → spI X.w X.K g (.ref x :: vs) (upd (upd H1 dx (.own x)) x (.ins (He.ga X.K "Rule") dx [])) (fun v H2 => v = .non ∧ Q (.ref x) H2) (WE W σ) := by
    refine ⟨ra, HK, F, e0, R, ?_⟩
    cases er : r e0 with
    | err =>
      rw [er] at h0
      exact h0
    | exc x e1 =>
      rw [er] at h0
      exact h0
    | ok ds e1 =>
      rw [er] at h0
      intro vs F1 H1 s1 R1 r1 x dx hx hdx hne
      have fx : F1 x = none := R1.fh.free hx
      have fdx : F1 dx = none := R1.fh.free hdx
      have nra : x ≠ ra := fun z => R1.ra_some (by rw [← z]; exact hx)
      have ndx : dx ≠ ra := fun z => R1.ra_some (by rw [← z]; exact hdx)
      have hS : Same F1 (upd (upd H1 dx (.own x)) x (.ins (He.ga X.K "Rule") dx [])) := fun b u q => by
        rw [upd_ne (ne_of_none q fx), upd_ne (ne_of_none q fdx)]
        exact R1.fh b u q
      have rowS : RowOk ra F1 (upd (upd H1 dx (.own x)) x (.ins (He.ga X.K "Rule") dx [])) e1.row := R1.row.mono (Same.refl F1) (by rw [upd_ne nra.symm, upd_ne ndx.symm])
      have oldS : ∀ b u, H1 b = some u → (upd (upd H1 dx (.own x)) x (.ins (He.ga X.K "Rule") dx [])) b = some u := fun b u q => by
        rw [upd_ne (ne_of_none q hx), upd_ne (ne_of_none q hdx)]
        exact q
      refine ⟨ra, F1, ds, e1.row, x, dx, vs, rfl, hS, R1.fra, rowS, r1, hn _ _ _ er, upd_same, fx, nra, ?_⟩
      have aft1 : ∀ {F' H' row'}, Aft ra F1 (upd (upd H1 dx (.own x)) x (.ins (He.ga X.K "Rule") dx [])) F' H' row' → Aft ra F1 H1 F' H' row' := fun {F' H' row'} a =>
        ⟨a.f, a.fh, a.fra, a.row, fun b u q nb => a.kept b u (oldS b u q) nb, fun b h1 h2 => a.pn b (by
          cases ez : H1 b with
          | none => exact absurd ez h1
          | some u =>
            rw [oldS b u ez]
            exact fun z => by cases z) h2⟩
      have h1 : Res.wp (match g ds e1.row with
        | .ret d row' => Res.ok d { e1 with row := row' }
        | .exc x row' => Res.exc x { e1 with row := row' }
        | .err => Res.err) (okG TV X.w X.K ra HK F σ Q) (exW X.w X.K ra HK F W) := h0
      cases eg : g ds e1.row with
      | err =>
        rw [eg] at h1
        exact h1
      | exc y row' =>
        rw [eg] at h1
        exact fun F' H' cls dd a hx => h1 cls dd σ F' H' (s1.trans a.f) (R1.after (aft1 a)) hx
      | ret d row' =>
        rw [eg] at h1
        obtain ⟨l, rfl⟩ := hret _ _ _ _ eg
        intro F' H' H'' us' a hra hl hx2 hoth
        have fx' : F' x = none := a.pn x (by rw [upd_same]; exact fun z => by cases z) fx
        have b := aft1 a
        have a2 : Aft ra F1 H1 (upd F' x (.ins (He.ga X.K "Rule") dx (ruleF us'))) H'' row' := by
          refine ⟨b.f.trans (same_new fx'), fun c u q => ?_, by rw [upd_ne nra.symm]; exact b.fra, b.row.mono (same_new fx') (hoth ra nra.symm), fun c u q nc => ?_, fun c h2 h3 => ?_⟩
          · by_cases hc : c = x
            · rw [hc, upd_same] at q
              rw [hc, hx2]
              exact q
            · rw [upd_ne hc] at q
              rw [hoth c hc]
              exact b.fh c u q
          · rw [hoth c (ne_of_none q hx)]
            exact b.kept c u q nc
          · rw [upd_ne fun z => h2 (by rw [z]; exact hx)]
            exact b.pn c h2 h3
        exact ⟨rfl, h1 (.ref x) _ H'' (s1.trans a2.f) (R1.after a2) (.obj upd_same hl (hra.mono (same_new fx')))⟩
  refine PySem.W.callWith_K (h₀ := X.base) I.ok.mod.kin M.kp (thn (ha.run pos pins s σ H _ I key) fun us s1 ⟨vs, H1, I1, r1, q⟩ => ⟨I1.kIn, ?_⟩) he hpl
  exact run_makeS (E := WE W) M F1 (hr.mono hk) hb (passAt tk σ) I1 r1 q
end
/-! ### the stores of __init__ -/
section
variable {X : Cx} {p1 p2 p3 p4 : Pos}
/-- self.f = name -/
def sStore (K : PySem.W.Frag) (f : Str) (j : Nat) (u : Ends → L2.St → Hp → Prop) : TS := fun D' σ H => ∃ x dx fs v, σ[0]? = some (some (.ref x)) ∧ σ[j]? = some (some v) ∧ H x = some (.ins (He.ga K "Rule") dx fs) ∧ fs.length < 1000 ∧ u D' σ (upd H x (.ins (He.ga K "Rule") dx (putF f v fs)))
theorem ps_store1 {f n self : Str} (j : Nat) (cl : Cls X.K (He.ga X.K "Rule")) (na : NoAttr X.K (He.ga X.K "Rule") f) (h0 : X.N[0]? = some self := by rfl) (hv0 : Vis X.env.scope self := by first | exact Or.inl rfl | exact Or.inr (Or.inl rfl) | exact Or.inr (Or.inr rfl))
    (hj : X.N[j]? = some n := by rfl) (hv : Vis X.env.scope n := by first | exact Or.inl rfl | exact Or.inr (Or.inl rfl) | exact Or.inr (Or.inr rfl)) (hd0 : (self == ("__debug__" : Str)) = false := by decide) (hcd0 : (self == ("__classdict__" : Str)) = false := by decide)
    (hd : (n == ("__debug__" : Str)) = false := by decide) (hcd : (n == ("__classdict__" : Str)) = false := by decide) (hs : swapsWith (.Name n p1) (some (.Attribute (.Name self p2) f p3)) p4.line X.env = pure false := by rfl) :
    PS X (.Assign [.Attribute (.Name self p2) f p3] (.Name n p1) p4) (sStore X.K f j fun D' σ H => D'.nx σ H) := by
  refine PS.weaken (ps_fld (pe_var h0 hv0 hd0 hcd0) (pe_var hj hv hd hcd) hs) ?_
  rintro D' σ H ⟨x, dx, fs, v, e0, ej, hx, hl, q⟩
  exact ⟨v, ej, .ref x, e0, x, _, dx, fs, rfl, hx, cl, na, hl, q⟩
theorem upd_upd (H : Hp) (a : Addr) (u v : HO) : upd (upd H a u) a v = upd H a v := by
  funext b
  unfold upd
  by_cases c : b = a
  · simp [c]
  · simp [c]
theorem putF_len (f : Str) (v : V) : ∀ fs : List (Str × V), (putF f v fs).length ≤ fs.length + 1
  | [] => Nat.le_refl _
  | (g, x) :: r => by
    unfold putF
    split
    · exact Nat.le_succ _
    · exact Nat.succ_le_succ (putF_len f v r)
/-- the five -/
def tStores (K : PySem.W.Frag) : TS := fun D' σ H => ∃ x dx v1 v2 v3 v4 v5, σ[0]? = some (some (.ref x)) ∧ σ[1]? = some (some v1) ∧ σ[2]? = some (some v2) ∧ σ[3]? = some (some v3) ∧ σ[4]? = some (some v4) ∧ σ[5]? = some (some v5) ∧ H x = some (.ins (He.ga K "Rule") dx []) ∧
  D'.nx σ (upd H x (.ins (He.ga K "Rule") dx (ruleF [v1, v2, v3, v4, v5])))
theorem pss_stores {s1 s2 s3 s4 s5 : Stmt} (h1 : PS X s1 (sStore X.K "many" 1 fun D' σ H => D'.nx σ H)) (h2 : PS X s2 (sStore X.K "wide" 2 fun D' σ H => D'.nx σ H)) (h3 : PS X s3 (sStore X.K "rows" 3 fun D' σ H => D'.nx σ H))
    (h4 : PS X s4 (sStore X.K "low" 4 fun D' σ H => D'.nx σ H)) (h5 : PS X s5 (sStore X.K "high" 5 fun D' σ H => D'.nx σ H)) : PSs X [s1, s2, s3, s4, s5] (tStores X.K) := by
  refine PSs.weaken (pss_cons h1 (pss_cons h2 (pss_cons h3 (pss_cons h4 (pss_one h5))))) ?_
  rintro D' σ H ⟨x, dx, v1, v2, v3, v4, v5, e0, e1, e2, e3, e4, e5, hx, q⟩
  refine ⟨x, dx, [], v1, e0, e1, hx, by decide, ?_⟩
  refine ⟨x, dx, _, v2, e0, e2, upd_same, Nat.lt_of_le_of_lt (putF_len _ _ _) (by decide), ?_⟩
  rw [upd_upd]
  refine ⟨x, dx, _, v3, e0, e3, upd_same, by have := putF_len "many" v1 []; have := putF_len "wide" v2 (putF "many" v1 []); have := putF_len "rows" v3 (putF "wide" v2 (putF "many" v1 [])); have := putF_len "low" v4 (putF "rows" v3 (putF "wide" v2 (putF "many" v1 []))); simp only [List.length_nil] at *; omega, ?_⟩
  rw [upd_upd]
  refine ⟨x, dx, _, v4, e0, e4, upd_same, by have := putF_len "many" v1 []; have := putF_len "wide" v2 (putF "many" v1 []); have := putF_len "rows" v3 (putF "wide" v2 (putF "many" v1 [])); have := putF_len "low" v4 (putF "rows" v3 (putF "wide" v2 (putF "many" v1 []))); simp only [List.length_nil] at *; omega, ?_⟩
  rw [upd_upd]
  refine ⟨x, dx, _, v5, e0, e5, upd_same, by have := putF_len "many" v1 []; have := putF_len "wide" v2 (putF "many" v1 []); have := putF_len "rows" v3 (putF "wide" v2 (putF "many" v1 [])); have := putF_len "low" v4 (putF "rows" v3 (putF "wide" v2 (putF "many" v1 []))); simp only [List.length_nil] at *; omega, ?_⟩
  rw [upd_upd]
  exact q
end
section
variable {P : Program} {w : World} {K : PySem.W.Frag} {mg : Str → Option Value} {base : Heap} {x qual : Str} {params : Arguments} {body : List Stmt} {scope : Scope} {kws : List (Str × V)} {f : Addr} {fd : FuncData}
/-- THE RULE for Rule.__init__ -/
theorem mk_ok {N ps : List Str} {k : Nat} {b : M Fl} (FD : FunD K x qual params body scope [] kws f fd) (S : FnScope N ps scope) (hm : mg "Rule" = some (.ref (He.ga K "Rule"))) (hb : Binds K fd ps []) (hmk : Mk K (He.ga K "Rule") f) (hn : ps.length = 6) (hN : N.length = 8)
    (hbody : ∀ (cdv : Value) (A : Around) (outer : List PySem.Env) (s : Shared) (H : Hp) (E : XK), Room k (A.deeper (envOfC qual scope s.heap.objs.size f cdv)) → Takes (cxOf (L2.CX P w) P w K mg base N qual scope f cdv A outer s H E) (fun cls d _ H' => E cls d H') →
      PSs (cxOf (L2.CX P w) P w K mg base N qual scope f cdv A outer s H E) body (fun D' σ H1 => tS w K (fun cls d _ H' => E cls d H') b { D' with nx := tStores K D' } σ H1)) : MkF P w K mg base (k + 1) (initM b) := by
  refine ⟨f, fd, ps, FD.ok S (fun vs H Q E h => ?_) (fun cdv A outer s H vs Q E hr h => ?_), hm, hb, hmk⟩
  · obtain ⟨ra, F, ds, row, x, dx, us, rfl, _, _, _, rp, hl, _⟩ := h
    rw [List.length_cons, rp.length, hl, hn]
  · have tk : Takes (cxOf (L2.CX P w) P w K mg base N qual scope f cdv A outer s H E) (fun cls d _ H' => E cls d H') := takes_of rfl rfl rfl rfl
    refine ⟨_, hbody cdv A outer s H E hr tk, ?_⟩
    obtain ⟨ra, F, ds, row, x, dx, us, rfl, hf, fra, ro, rp, hl, hx, fx, nra, h⟩ := h
    obtain ⟨d1, d2, d3, d4, d5, rfl⟩ : ∃ d1 d2 d3 d4 d5, ds = [d1, d2, d3, d4, d5] := by
      match ds, hl with
      | [d1, d2, d3, d4, d5], _ => exact ⟨d1, d2, d3, d4, d5, rfl⟩
    cases rp with
    | @cons v1 _ _ _ r1 rp =>
    cases rp with
    | @cons v2 _ _ _ r2 rp =>
    cases rp with
    | @cons v3 _ _ _ r3 rp =>
    cases rp with
    | @cons v4 _ _ _ r4 rp =>
    cases rp with
    | @cons v5 _ _ _ r5 rp =>
    cases rp
    have es : L2.start N [.ref x, v1, v2, v3, v4, v5] = [some (.ref x), some v1, some v2, some v3, some v4, some v5, none, none] := by
      unfold L2.start
      rw [hN]
      rfl
    have R : Rel w K ra ⟨fun b => if b = ra then none else H b, fun b => H b ≠ none ∧ F b = none ∧ b ≠ ra, .ref x⟩ F ⟨.pin :: [d1, d2, d3, d4, d5].map Slot.val ++ [.no, .no], row⟩ (L2.start N [.ref x, v1, v2, v3, v4, v5]) H := by
      rw [es]
      refine ⟨hf, fun b u q => ?_, rfl, fun i t hi => ?_, fun i j s1 s2 a a' p hij h1 h2 c1 c2 h3 h4 => ?_, ro, fra, if_pos rfl, fun b hb => ⟨?_, hb.2.1⟩⟩
      · by_cases c : b = ra
        · simp only [if_pos c] at q
          cases q
        · simp only [if_neg c] at q
          exact q
      · match i, hi with
        | 0, hi => cases hi; rfl
        | 1, hi => cases hi; exact ⟨v1, rfl, r1⟩
        | 2, hi => cases hi; exact ⟨v2, rfl, r2⟩
        | 3, hi => cases hi; exact ⟨v3, rfl, r3⟩
        | 4, hi => cases hi; exact ⟨v4, rfl, r4⟩
        | 5, hi => cases hi; exact ⟨v5, rfl, r5⟩
        | 6, hi => cases hi; trivial
        | 7, hi => cases hi; trivial
        | i + 8, hi => cases hi
      · exfalso
        match i, h1 with
        | 0, h1 => cases h1; cases c1
        | 1, h1 => cases h1; cases c1
        | 2, h1 => cases h1; cases c1
        | 3, h1 => cases h1; cases c1
        | 4, h1 => cases h1; cases c1
        | 5, h1 => cases h1; cases c1
        | 6, h1 => cases h1; cases c1
        | 7, h1 => cases h1; cases c1
        | i + 8, h1 => cases h1
      · show (if b = ra then none else H b) ≠ none
        rw [if_neg hb.2.2]
        exact hb.1
    refine ⟨ra, _, F, _, R, ?_⟩
    unfold initM at h
    cases eb : b ⟨.pin :: [d1, d2, d3, d4, d5].map Slot.val ++ [.no, .no], row⟩ with
    | err =>
      rw [eb] at h
      exact h
    | exc y e' =>
      rw [eb] at h
      exact fun cls d σ' F' H' s' R' hx => h F' H' cls d (aft_of R' s') hx
    | ok fl e' =>
      rw [eb] at h
      intro σ' F' H' s' R'
      cases fl with
      | bk => exact h.elim
      | ct => exact h.elim
      | rt d => exact h.elim
      | nx =>
        simp only at h
        cases ee : initEnd e'.sl with
        | none =>
          rw [ee] at h
          exact h.elim
        | some l =>
          rw [ee] at h
          obtain ⟨d1', d2', d3', d4', d5', r', esl, rfl⟩ := initEnd_inv ee
          have g0 : σ'[0]? = some (some (V.ref x)) := R'.sl 0 .pin (by rw [esl]; rfl)
          obtain ⟨u1, g1, q1⟩ := R'.sl 1 (.val d1') (by rw [esl]; rfl)
          obtain ⟨u2, g2, q2⟩ := R'.sl 2 (.val d2') (by rw [esl]; rfl)
          obtain ⟨u3, g3, q3⟩ := R'.sl 3 (.val d3') (by rw [esl]; rfl)
          obtain ⟨u4, g4, q4⟩ := R'.sl 4 (.val d4') (by rw [esl]; rfl)
          obtain ⟨u5, g5, q5⟩ := R'.sl 5 (.val d5') (by rw [esl]; rfl)
          have hx' : H' x = some (.ins (He.ga K "Rule") dx []) := R'.kh x _ (by show (if x = ra then none else H x) = _; rw [if_neg nra]; exact hx)
          exact ⟨x, dx, u1, u2, u3, u4, u5, g0, g1, g2, g3, g4, g5, hx', h F' H' _ [u1, u2, u3, u4, u5] (aft_of R' s') (.cons q1 (.cons q2 (.cons q3 (.cons q4 (.cons q5 .nil))))) rfl upd_same fun b hb => upd_ne hb⟩
end
end Mi

set_option Elab.async false
set_option linter.all false
set_option maxRecDepth 100000
set_option maxHeartbeats 4000000
/-! Mi, part R: any, all, sum, max, min, list(range); try. -/
namespace Mi
open PySem PySem.Spec PyProof.Rows L2
def blsOf : List D → Option (List Bool)
  | [] => some []
  | .bl b :: r => (blsOf r).map (b :: ·)
  | _ => none
theorem blsOf_ok : ∀ {l : List D} {bs : List Bool}, blsOf l = some bs → l = bs.map D.bl
  | [], bs, h => by
    cases h
    rfl
  | .bl b :: r, bs, h => by
    simp only [blsOf, Option.map_eq_some_iff] at h
    obtain ⟨bs', h1, rfl⟩ := h
    rw [blsOf_ok h1]
    rfl
  | .non :: r, bs, h => by cases h
  | .int _ :: r, bs, h => by cases h
  | .str _ :: r, bs, h => by cases h
  | .tup _ :: r, bs, h => by cases h
  | .lst _ :: r, bs, h => by cases h
  | .dct _ :: r, bs, h => by cases h
  | .obj _ :: r, bs, h => by cases h
  | .row :: r, bs, h => by cases h
theorem blsOf_map (bs : List Bool) : blsOf (bs.map D.bl) = some bs := by
  induction bs with
  | nil => rfl
  | cons b bs ih => simp [blsOf, ih]
theorem RepA.bls {w : World} {K : PySem.W.Frag} {ra : Addr} {F : Hp} : ∀ {vs : List V} {bs : List Bool}, RepA w K ra F vs (bs.map D.bl) → vs = bs.map V.bl
  | vs, [], h => by
    cases h
    rfl
  | vs, i :: is, h => by
    cases h with
    | cons a r =>
      cases a
      rw [RepA.bls r]
      rfl
def allF (d : D) : Option D := match d with
  | .lst l => (blsOf l).map fun bs => .bl (bs.all id)
  | _ => none
def anyF (d : D) : Option D := match d with
  | .lst l => (blsOf l).map fun bs => .bl (bs.any id)
  | _ => none
section
variable {X : Cx} {W : WX} {a b : Expr} {ma mb : M Ref} {pos : Pos}
theorem Held.bools {w : World} {K : PySem.W.Frag} {ra : Addr} {F H : Hp} (fh : Same F H) {v : V} {bs : List Bool} (h : Held w K ra F H v (.lst (bs.map D.bl))) : ∃ p, v = .ref p ∧ SqL K H p (bs.map V.bl) := by
  obtain ⟨p, vs, rfl, h1, h2⟩ := h.lst fh
  rw [h2.bls] at h1
  exact ⟨p, rfl, .of h1⟩
theorem c1s_all : C1S X.w X.K (rAll X.K) allF := by
  intro ra HK F e σ H x d z Q R hx hz q
  cases d with
  | lst l =>
    simp only [allF, Option.map_eq_some_iff] at hz
    obtain ⟨bs, h1, rfl⟩ := hz
    obtain rfl := blsOf_ok h1
    obtain ⟨p, rfl, h2⟩ := hx.bools R.fh
    exact ⟨p, bs, rfl, h2, q _ F H (Same.refl F) R (.bl _)⟩
  | _ => cases hz
theorem pm_all {p : Pos} (hm : X.mg "all" = none) (ha : PMR X W a ma) (hc : X.calm = true := by rfl) (hg : Gl X "all" := by rfl) (hse : starEach [a] X.env = (false, eval a X.env) :: starEach [] X.env := by rfl) : PM X W (.Call (.Name "all" p) [a] [] pos) (op1M ma allF) :=
  pm_call1 (cr_all hc) c1s_all hm PyProof.Rows.boot_all ha hg (by decide) (by decide) hse
/-! ### max(i, j), min(i, j) -/
def max2F (l : List D) : Option D := match l with
  | [.int i, .int j] => some (.int (max i j))
  | _ => none
def min2F (l : List D) : Option D := match l with
  | [.int i, .int j] => some (.int (min i j))
  | _ => none
def opLM (r : M (List D)) (f : List D → Option D) : M D := bindM r fun l => liftO (f l)
theorem opL_read {r : M (List D)} {f : List D → Option D} {rr : List V → Hp → VK → Prop} (hs : ∀ (ra : Addr) (HK : Kp) (F : Hp) (e : Env) (σ : St) (H : Hp) (vs : List V) (l : List D) (z : D) (Q : VK), Rel X.w X.K ra HK F e σ H → RepA X.w X.K ra F vs l → f l = some z → okG TV X.w X.K ra HK F σ Q z e → rr vs H Q)
    {σ : St} {H : Hp} {Q : VK} (h : tG TV X.w X.K W (opLM r f) σ H Q) : tCB rr (tG TAs X.w X.K W r) σ H Q := by
  obtain ⟨ra, HK, F, e, R, hw⟩ := h
  unfold opLM at hw
  refine stepG R hw fun F1 e1 l vs H1 s1 R1 r1 q1 => ?_
  unfold liftO at q1
  cases ez : f l with
  | none =>
    rw [ez] at q1
    exact q1.elim
  | some z =>
    rw [ez] at q1
    exact hs ra HK F1 e1 σ H1 vs l z Q R1 r1 ez q1
theorem two_ints {w : World} {K : PySem.W.Frag} {ra : Addr} {F : Hp} {vs : List V} {i j : Int} (h : RepA w K ra F vs [.int i, .int j]) : vs = [.int i, .int j] := by
  cases h with
  | cons a r =>
    cases r with
    | cons b r =>
      cases r
      cases a
      cases b
      rfl
theorem pm_max2 {r : M (List D)} {p : Pos} (hm : X.mg "max" = none) (ha : PMA X W [a, b] r) (hc : X.calm = true := by rfl) (hg : Gl X "max" := by rfl) (hse : starEach [a, b] X.env = (false, eval a X.env) :: starEach [b] X.env := by rfl) (hpl : (backTo pos (starEach [b] X.env)).any (·.1) = false := by rfl) : PM X W (.Call (.Name "max" p) [a, b] [] pos) (opLM r max2F) := by
  refine PE.weaken (pe_callB (call_max2 hc) hg hm PyProof.Rows.boot_max ha (by decide) (by decide) hse hpl) fun _ _ _ h => opL_read (fun ra HK F e σ H vs l z Q R rp ez q => ?_) h
  unfold max2F at ez
  split at ez
  · rename_i i j
    cases ez
    refine ⟨i, j, two_ints rp, ?_⟩
    have e : (if j > i then j else i) = max i j := by
      by_cases c : j > i
      · rw [if_pos c, Int.max_eq_right (by omega)]
      · rw [if_neg c, Int.max_eq_left (by omega)]
    rw [e]
    exact q _ F H (Same.refl F) R (.int _)
  · cases ez
theorem pm_min2 {r : M (List D)} {p : Pos} (hm : X.mg "min" = none) (ha : PMA X W [a, b] r) (hc : X.calm = true := by rfl) (hg : Gl X "min" := by rfl) (hse : starEach [a, b] X.env = (false, eval a X.env) :: starEach [b] X.env := by rfl) (hpl : (backTo pos (starEach [b] X.env)).any (·.1) = false := by rfl) : PM X W (.Call (.Name "min" p) [a, b] [] pos) (opLM r min2F) := by
  refine PE.weaken (pe_callB (call_min2 hc) hg hm PyProof.Rows.boot_min ha (by decide) (by decide) hse hpl) fun _ _ _ h => opL_read (fun ra HK F e σ H vs l z Q R rp ez q => ?_) h
  unfold min2F at ez
  split at ez
  · rename_i i j
    cases ez
    refine ⟨i, j, two_ints rp, ?_⟩
    have e : (if j < i then j else i) = min i j := by
      by_cases c : j < i
      · rw [if_pos c, Int.min_eq_right (by omega)]
      · rw [if_neg c, Int.min_eq_left (by omega)]
    rw [e]
    exact q _ F H (Same.refl F) R (.int _)
  · cases ez
/-! ### list(range(a, b)), tuple(range(a, b)) -/
def rg2 (x y : D) : Option (List D) := match x, y with
  | .int i, .int j => if okI i && okI j && decide (j - i ≤ 1000000) then some (rngL i j) else none
  | _, _ => none
def lstRgM (ma mb : M D) : M OD := bindM ma fun x => bindM mb fun y => liftO ((rg2 x y).map OD.lst)
end
/-! ### try -/
def exSub (c d : Str) : Bool := c == d || d == "CutError"
def hdM (i : Nat) (m : M Fl) : M Fl := fun e => if i < e.sl.length then (match m { e with sl := e.sl.set i .no } with
  | .ok fl e2 => .ok fl { e2 with sl := e2.sl.set i .no }
  | _ => .err) else .err
def tryH (cs : List Str) (x : Exn) (e : Env) : List (Str × Nat × M Fl) → Res Fl
  | [] => .exc x e
  | (c, i, m) :: r => if cs.contains x.cls && x.fs.isEmpty then (if exSub x.cls c then hdM i m e else tryH cs x e r) else .err
def tryM (cs : List Str) (b : M Fl) (hs : List (Str × Nat × M Fl)) : M Fl := fun e => match b e with
  | .exc x e' => tryH cs x e' hs
  | r => r
/-- the classes of errors -/
structure ExTab (K : PySem.W.Frag) (mg : Str → Option Value) (cs : List Str) : Prop where
  g : ∀ c ∈ cs, mg c = some (.ref (He.ga K c))
  m : ∀ c ∈ cs, ∀ d ∈ cs, PySem.W.exmOne K (.ref (He.ga K c)) (.ref (He.ga K d)) = some (exSub c d)
  i : ∀ c ∈ cs, ExcC K (He.ga K c)
  k : ∀ c ∈ cs, PySem.W.kitOne K (.ref (He.ga K c)) (.ref (He.ga K "CutError")) = some true
  cut : ("CutError" : Str) ∈ cs
section
variable {X : Cx} {W : WX} {cs : List Str}
/-- y = A if isinstance(e, CutError) else B, in an except suite -/
theorem suite_is {i j : Nat} {a : Addr} {oe : Obj} {c : Str} {pn : List (Addr × Obj)} {y n : Str} {py p p2 p3 p4 p5 pos : Pos} {A B : Expr} {mA : M D} (T : ExTab X.K X.mg cs) (hcs : c ∈ cs) (hz : Zc (.ref (He.ga X.K c)) none oe) (hf : ∃ vs, oe.data = .fields vs)
    (hA : PM (X.suite a ((a, oe) :: pn)) WN A mA) (hB : PM (X.suite a ((a, oe) :: pn)) WN B errM) (hm : X.mg "isinstance" = none) (hN : X.N.Nodup) (hi : X.N[i]? = some n) (hj : X.N[j]? = some y) (hvi : Vis X.env.scope n)
    (hdn : (n == ("__debug__" : Str)) = false) (hcn : (n == ("__classdict__" : Str)) = false)
    (hyl : Loc X.env.scope y) (hgi : Gl X "isinstance") (hgc : Gl X "CutError") (hse : starEach [.Name n p2, .Name "CutError" p3] X.env = (false, eval (.Name n p2) X.env) :: starEach [.Name "CutError" p3] X.env)
    (hsw : swapsWith (.IfExp (.Call (.Name "isinstance" p) [.Name n p2, .Name "CutError" p3] [] p4) A B p5) (some (.Name y py)) pos.line X.env = pure false) (hfn : X.fn y = true ∨ X.env.scope.names.lookup y = some .local) :
    PSs (X.suite a ((a, oe) :: pn)) [.Assign [.Name y py] (.IfExp (.Call (.Name "isinstance" p) [.Name n p2, .Name "CutError" p3] [] p4) A B p5) pos] (fun D' σ H => σ[i]? = some (some (.ref a)) ∧ tS X.w X.K WN (asgM j mA) D' σ H) := by
  have pc : PE (X.suite a ((a, oe) :: pn)) (.Call (.Name "isinstance" p) [.Name n p2, .Name "CutError" p3] [] p4) _ := pe_callB (call_isE (T.i c hcs) hz hf) hgi hm (by decide +kernel) (pa_cons (pe_var (i := i) hi hvi hdn hcn) (pa_cons (pe_glob (v := .ref (He.ga X.K "CutError")) hgc (T.g _ T.cut) rfl (by decide)) pa_nil rfl) hse) (by decide) (by decide) hse rfl
  have ps := pss_one (ps_set (X := X.suite a ((a, oe) :: pn)) (pos := pos) (pos' := py) hN hj hyl (pe_ifExp (X := X.suite a ((a, oe) :: pn)) (pos := p5) (pt_val pc) hA hB) hsw hfn)
  refine PSs.weaken ps ?_
  rintro D' σ H ⟨e1, ra, HK, F, e, R, h⟩
  refine ⟨.ref a, e1, ?_⟩
  refine ⟨.ref (He.ga X.K "CutError"), .ref (He.ga X.K "CutError"), true, rfl, fun u r => r, T.k c hcs, ?_⟩
  · refine ⟨true, rfl, iteT ?_⟩
    unfold asgM at h
    refine stepS R h fun F1 e1' d v H1 s1 R1 r1 q1 => ?_
    obtain ⟨h1, q2⟩ := wp_setM q1
    exact q2 _ F1 H1 (Same.refl F1) (R1.setVal h1 r1)
/-- try: body / except x as n: y = A if isinstance(n, CutError) else B -/
theorem psm_try1 {i j : Nat} {c y n : Str} {py np p p2 p3 p4 p5 pos pos1 pos' : Pos} {A B : Expr} {mA : M D} {b : M Fl} {body : List Stmt} (T : ExTab X.K X.mg cs) (hcc : c ∈ cs) (tk : Takes X W) (hs : X.stack = X.env :: X.outer) (hf : X.env.frame = some X.env.locals)
    (hb : ∀ (W' : WX) (pn : List (Addr × Obj)) (xe : Value → Shared → Prop), Takes (X.tr pn xe) W' → PassesOwn (model X.prog X.w) X.A X.env xe → PSsM (X.tr pn xe) W' body b)
    (hA : ∀ (a : Addr) (oe : Obj) (pn : List (Addr × Obj)), PM (X.suite a ((a, oe) :: pn)) WN A mA) (hB : ∀ (a : Addr) (oe : Obj) (pn : List (Addr × Obj)), PM (X.suite a ((a, oe) :: pn)) WN B errM) (hm : X.mg "isinstance" = none) (hN : X.N.Nodup) (hi : X.N[i]? = some n := by rfl) (hj : X.N[j]? = some y := by rfl) (hij : i ≠ j := by decide)
    (hln : X.env.kindOf n = some .local := by rfl) (hvi : Vis X.env.scope n := by first | exact Or.inl rfl | exact Or.inr (Or.inl rfl) | exact Or.inr (Or.inr rfl))
    (hdn : (n == ("__debug__" : Str)) = false := by decide) (hcn : (n == ("__classdict__" : Str)) = false := by decide) (hdc : (c == ("__debug__" : Str)) = false := by decide) (hgx : Gl X c := by rfl)
    (hyl : Loc X.env.scope y := by first | exact Or.inl rfl | exact Or.inr rfl) (hgi : Gl X "isinstance" := by rfl) (hgc : Gl X "CutError" := by rfl) (hse : starEach [.Name n p2, .Name "CutError" p3] X.env = (false, eval (.Name n p2) X.env) :: starEach [.Name "CutError" p3] X.env := by rfl)
    (hsw : swapsWith (.IfExp (.Call (.Name "isinstance" p) [.Name n p2, .Name "CutError" p3] [] p4) A B p5) (some (.Name y py)) pos1.line X.env = pure false := by rfl) (hfn : X.fn y = true ∨ X.env.scope.names.lookup y = some .local := by first | exact .inl rfl | exact .inr rfl | assumption) :
    PSM X W (.Try body [.ExceptHandler (some (.Name c np)) (some n) [.Assign [.Name y py] (.IfExp (.Call (.Name "isinstance" p) [.Name n p2, .Name "CutError" p3] [] p4) A B p5) pos1] pos'] [] [] pos) (tryM cs b [(c, i, asgM j mA)]) := by
  let ts : Addr → Value → Option Addr → TS := fun a cls d D' σ H => ∃ c' ∈ cs, cls = .ref (He.ga X.K c') ∧ d = none ∧ σ[i]? = some (some (.ref a)) ∧ tS X.w X.K WN (asgM j mA) D' σ H
  have hsu : ∀ (a : Addr) (oe : Obj) (cls : Value) (d : Option Addr) (pn : List (Addr × Obj)), Zc cls d oe → (∃ vs, oe.data = .fields vs) → PSs (X.suite a ((a, oe) :: pn)) [.Assign [.Name y py] (.IfExp (.Call (.Name "isinstance" p) [.Name n p2, .Name "CutError" p3] [] p4) A B p5) pos1] (ts a cls d) := by
    intro a oe cls d pn hz hfd
    refine ⟨fun pins s σ H D' I h => ?_⟩
    obtain ⟨c', hc', rfl, rfl, e1, h⟩ := h
    exact (suite_is T hc' hz hfd (hA a oe pn) (hB a oe pn) hm hN hi hj hvi hdn hcn hyl hgi hgc hse hsw hfn).run pins s σ H D' I ⟨e1, h⟩
  refine PS.weaken (ps_try_as (Wout := W) (tb := fun W' => tS X.w X.K W' b) (ts := ts) hs hf hN hi hln ⟨hgx, hdc, .inl (T.g c hcc)⟩ tk hb hsu) ?_
  rintro D' σ H ⟨ra, HK, F, e, R, h⟩
  unfold tryM at h
  refine ⟨ra, HK, F, e, R, ?_⟩
  cases eb : b e with
  | err =>
    rw [eb] at h
    exact h
  | ok fl e1 =>
    rw [eb] at h
    exact h
  | exc x e1 =>
    rw [eb] at h
    intro cls d σ1 F1 H1 s1 R1 hx
    obtain ⟨rfl, hfs⟩ := hx
    have h' : Res.wp (tryH cs x e1 [(c, i, asgM j mA)]) (okS X.w X.K ra HK F D') (exW X.w X.K ra HK F W) := h
    unfold tryH at h'
    by_cases hcx : (cs.contains x.cls && x.fs.isEmpty) = true
    · rw [if_pos hcx] at h'
      simp only [Bool.and_eq_true] at hcx
      have hxc : x.cls ∈ cs := by simpa using hcx.1
      have hx0 : x.fs = [] := by simpa using hcx.2
      have hd : d = none := by
        rcases hfs with ⟨_, hd⟩ | ⟨hne, _⟩
        · exact hd
        · exact absurd hx0 hne
      refine ⟨exSub x.cls c, T.m _ hxc _ hcc, fun hsub a ha => ?_, fun hsub => ?_⟩
      · rw [if_pos hsub] at h'
        unfold hdM at h'
        by_cases hl : i < e1.sl.length
        · rw [if_pos hl] at h'
          have hl2 : i < σ1.length := by rw [← R1.len]; exact hl
          have R2 := R1.setNo i (some (V.ref a))
          cases em : asgM j mA { e1 with sl := e1.sl.set i .no } with
          | err =>
            rw [em] at h'
            exact h'.elim
          | exc z e2 =>
            rw [em] at h'
            exact h'.elim
          | ok fl e2 =>
            rw [em] at h'
            refine ⟨x.cls, hxc, rfl, hd, List.getElem?_set_self hl2, ra, HK, F1, _, R2, ?_⟩
            rw [em]
            intro σ3 F3 H3 s3 R3
            have R4 := R3.setNo i none
            have h5 := h' (σ3.set i none) F3 H3 (s1.trans s3) R4
            cases fl with
            | nx => exact h5
            | bk => exact h5
            | ct => exact h5
            | rt d => exact h5
        · rw [if_neg hl] at h'
          exact h'.elim
      · rw [if_neg (by rw [hsub]; exact Bool.false_ne_true)] at h'
        unfold tryH at h'
        exact h' _ d σ1 F1 H1 s1 R1 ⟨rfl, hfs⟩
    · rw [if_neg hcx] at h'
      exact h'.elim
end
end Mi

set_option Elab.async false
set_option linter.all false
set_option maxRecDepth 100000
set_option maxHeartbeats 4000000
/-! Mi, part S: several names set at once, each a value or a container of one's own. -/
namespace Mi
open PySem PySem.Spec PyProof.Rows L2
section
variable {w : World} {K : PySem.W.Frag} {ra : Addr} {HK : Kp} {F F' H H' : Hp} {e : Env} {σ : St}
/-- a new container is pinned while more is read -/
theorem Rel.pinTO (R : Rel w K ra HK F e σ H) {a : Addr} {o : OD} (t : TO w K ra HK σ e F H (.ref a) o) : ∃ u, H a = some u ∧ Rel w K ra (pinD HK a u) F e σ H := by
  obtain ⟨a', ea, r, fa, ka, na, nd⟩ := t
  cases ea
  obtain ⟨u, hu⟩ : ∃ u, H a = some u := by
    cases o with
    | lst ds =>
      obtain ⟨vs, h1, _⟩ := r
      exact ⟨_, h1⟩
    | dct kvs =>
      obtain ⟨es, ⟨o, h1, _⟩, _⟩ := r
      exact ⟨_, h1⟩
  refine ⟨u, hu, R.fh, fun b z q => ?_, R.len, fun i s h => ?_, R.sep, R.row, R.fra, ?_, fun b hb => ?_⟩
  · have q' : upd HK.h a u b = some z := q
    by_cases hb : b = a
    · rw [hb, upd_same] at q'
      rw [hb, hu]
      exact q'
    · rw [upd_ne hb] at q'
      exact R.kh b z q'
  · cases s with
    | no => trivial
    | pin => exact R.sl i _ h
    | val d => exact R.sl i _ h
    | dsk l o' r' =>
      obtain ⟨b, e1, r, fb, kb, nb, me⟩ := R.sl i _ h
      refine ⟨b, e1, r, fb, ?_, nb, me⟩
      show upd HK.h a u b = none
      rw [upd_ne fun z => nd i _ b h rfl e1 (.inl z.symm)]
      exact kb
    | own o' =>
      obtain ⟨b, e1, r, fb, kb, nb⟩ := R.sl i _ h
      refine ⟨b, e1, r, fb, ?_, nb⟩
      show upd HK.h a u b = none
      rw [upd_ne fun z => nd i _ b h rfl e1 (.inl z.symm)]
      exact kb
    | box l =>
      obtain ⟨b, e1, es, at_, rb, nd', f⟩ := R.sl i _ h
      refine ⟨b, e1, es, at_, rb, nd', fun p hp => ?_⟩
      obtain ⟨f1, f2, f3, f4⟩ := f p hp
      refine ⟨f1, ?_, f3, f4⟩
      show upd HK.h a u p = none
      rw [upd_ne fun z => nd i _ b h rfl e1 (by rw [← z]; exact hp.imp id fun q => ⟨rfl, q⟩)]
      exact f2
  · show upd HK.h a u ra = none
    rw [upd_ne na.symm]
    exact R.kra
  · rcases hb with hb | rfl
    · refine ⟨?_, (R.pn b hb).2⟩
      show upd HK.h a u b ≠ none
      by_cases c : b = a
      · rw [c, upd_same]
        exact fun z => by cases z
      · rw [upd_ne c]
        exact (R.pn b hb).1
    · exact ⟨by show upd HK.h b u b ≠ none; rw [upd_same]; exact (fun z => by cases z), fa⟩
end
/-- values that are to be set, each a value or new -/
def TSl : List V → List Slot → World → PySem.W.Frag → Addr → Kp → St → Env → Hp → Hp → Prop
  | [], [] => fun w K ra HK σ e F H => Rel w K ra HK F e σ H
  | v :: vs, .val d :: ss => fun w K ra HK σ e F H => Rep w K ra F v d ∧ TSl vs ss w K ra HK σ e F H
  | v :: vs, .own o :: ss => fun w K ra HK σ e F H => ∃ a u, v = .ref a ∧ HK.h a = none ∧ (∀ b, HK.pin b → HK.h b ≠ none) ∧ RepO w K ra F H a o ∧ TSl vs ss w K ra (pinD HK a u) σ e F H
  | v :: vs, .box l :: ss => fun w K ra HK σ e F H => vs = [] ∧ ss = [] ∧ Rel w K ra HK F e σ H ∧ ∃ a, v = .ref a ∧ BoxAt w K ra HK F H a l ∧ ∀ p, Foot H (.box l) a p → NotIn e σ H p
  | _, _ => fun _ _ _ _ _ _ _ _ => False
def consV (m : M D) (r : M (List Slot)) : M (List Slot) := bindM m fun d => bindM r fun ss => pureM (.val d :: ss)
def consO (m : M OD) (r : M (List Slot)) : M (List Slot) := bindM m fun o => bindM r fun ss => pureM (.own o :: ss)
def setAll : List Nat → List Slot → M Unit
  | [], [] => pureM ()
  | i :: is, s :: ss => bindM (setAll is ss) fun _ => setM i s
  | _, _ => errM
def setS : List Nat → List V → L2.St → L2.St
  | i :: is, v :: vs, σ => (setS is vs σ).set i (some v)
  | _, _, σ => σ
/-- reading of a list of slots: the state that holds is told by TSl itself -/
def okL (w : World) (K : PySem.W.Frag) (ra : Addr) (HK : Kp) (F : Hp) (σ : L2.St) (Q : List V → Hp → Prop) : List Slot → Env → Prop := fun ss e' => ∀ vs F' H', Same F F' → TSl vs ss w K ra HK σ e' F' H' → Q vs H'
def tL (w : World) (K : PySem.W.Frag) (W : WX) (m : M (List Slot)) : TA := fun σ H Q => ∃ ra HK F e, Rel w K ra HK F e σ H ∧ (m e).wp (okL w K ra HK F σ Q) (exW w K ra HK F W)
def PML (X : Cx) (W : WX) (es : List Expr) (m : M (List Slot)) : Prop := PA X es (tL X.w X.K W m)
theorem TSl.kept {w : World} {K : PySem.W.Frag} {ra : Addr} {F H : Hp} {e : Env} {σ : L2.St} : ∀ {vs : List V} {ss : List Slot} {HK : Kp}, TSl vs ss w K ra HK σ e F H → ∀ b u, HK.h b = some u → H b = some u
  | [], [], HK, h, b, u, q => Rel.kh h b u q
  | v :: vs, .val d :: ss, HK, h, b, u, q => TSl.kept (vs := vs) (ss := ss) h.2 b u q
  | v :: vs, .own o :: ss, HK, h, b, u, q => by
    obtain ⟨a, u', _, ka, _, _, t⟩ := h
    refine TSl.kept (vs := vs) (ss := ss) t b u ?_
    show upd HK.h a u' b = some u
    rw [upd_ne (ne_of_none q ka)]
    exact q
  | [], _ :: _, _, h, _, _, _ => h.elim
  | _ :: _, [], _, h, _, _, _ => h.elim
  | _ :: _, .no :: _, _, h, _, _, _ => h.elim
  | _ :: _, .pin :: _, _, h, _, _, _ => h.elim
  | v :: vs, .box l :: ss, HK, h, b, u, q => Rel.kh h.2.2.1 b u q
theorem setM_ok {i : Nat} {s : Slot} {e : Env} {e' : Env} (h : setM i s e = .ok () e') : i < e.sl.length ∧ e' = { e with sl := e.sl.set i s } := by
  unfold setM at h
  by_cases c : i < e.sl.length
  · rw [if_pos c] at h
    cases h
    exact ⟨c, rfl⟩
  · rw [if_neg c] at h
    cases h
theorem setAll_cons {i : Nat} {is : List Nat} {s : Slot} {ss : List Slot} {e e' : Env} (h : setAll (i :: is) (s :: ss) e = .ok () e') : ∃ e1, setAll is ss e = .ok () e1 ∧ i < e1.sl.length ∧ e' = { e1 with sl := e1.sl.set i s } := by
  unfold setAll bindM at h
  cases q : setAll is ss e with
  | err =>
    rw [q] at h
    cases h
  | exc x e1 =>
    rw [q] at h
    cases h
  | ok u e1 =>
    rw [q] at h
    obtain ⟨h1, h2⟩ := setM_ok h
    exact ⟨e1, rfl, h1, h2⟩
theorem TSl.set {w : World} {K : PySem.W.Frag} {ra : Addr} {F H : Hp} {e : Env} {σ : L2.St} : ∀ {is : List Nat} {vs : List V} {ss : List Slot} {HK : Kp} {e' : Env}, TSl vs ss w K ra HK σ e F H → setAll is ss e = .ok () e' → Rel w K ra HK F e' (setS is vs σ) H
  | [], [], [], HK, e', h, q => by
    cases q
    exact h
  | i :: is, v :: vs, .val d :: ss, HK, e', h, q => by
    obtain ⟨e1, q1, hl, rfl⟩ := setAll_cons q
    exact (TSl.set (is := is) h.2 q1).setVal hl h.1
  | i :: is, v :: vs, .own o :: ss, HK, e', h, q => by
    obtain ⟨e1, q1, hl, rfl⟩ := setAll_cons q
    obtain ⟨a, u, rfl, ka, hpn, rp, t⟩ := h
    have R := TSl.set (is := is) t q1
    obtain ⟨R2, fa, na, hu, nd⟩ := R.unpin ka hpn
    exact R2.setOwn hl ⟨a, rfl, rp, fa, ka, na, nd⟩
  | _ :: _, [], [], _, _, _, q => by cases q
  | [], _ :: _, [], _, _, h, _ => h.elim
  | [], [], _ :: _, _, _, _, q => by cases q
  | [], _ :: _, _ :: _, _, _, _, q => by cases q
  | _ :: _, [], _ :: _, _, _, h, _ => h.elim
  | _ :: _, _ :: _, [], _, _, h, _ => h.elim
  | _ :: _, _ :: _, .no :: _, _, _, h, _ => h.elim
  | _ :: _, _ :: _, .pin :: _, _, _, h, _ => h.elim
  | i :: is, v :: vs, .box l :: ss, HK, e', h, q => by
    obtain ⟨e1, q1, hl, rfl⟩ := setAll_cons q
    obtain ⟨rfl, rfl, R, a, rfl, bx, nin⟩ := h
    cases is with
    | nil =>
      cases q1
      exact R.setC hl ⟨a, rfl, bx⟩ nin
    | cons j is => cases q1
theorem setAll_quiet : ∀ (is : List Nat) (ss : List Slot) (e : Env) (x : Exn) (e' : Env), setAll is ss e ≠ .exc x e'
  | [], [], e, x, e', h => by cases h
  | i :: is, s :: ss, e, x, e', h => by
    unfold setAll bindM at h
    cases q : setAll is ss e with
    | err =>
      rw [q] at h
      cases h
    | exc y e1 => exact setAll_quiet is ss e y e1 q
    | ok u e1 =>
      rw [q] at h
      unfold setM at h
      simp only at h
      split at h <;> cases h
  | [], _ :: _, e, x, e', h => by cases h
  | _ :: _, [], e, x, e', h => by cases h
section
variable {X : Cx} {W : WX} {a : Expr} {es : List Expr} {m : M D} {mo : M OD} {r : M (List Slot)}
theorem pml_nil : PML X W [] (pureM []) := PA.weaken pa_nil fun σ H Q h => by
  obtain ⟨ra, HK, F, e, R, h⟩ := h
  exact h [] F H (Same.refl F) R
theorem okL_mono {w : World} {K : PySem.W.Frag} {ra : Addr} {HK : Kp} {F F1 : Hp} {σ : L2.St} {Q : List V → Hp → Prop} (s : Same F F1) {ss : List Slot} {e' : Env} (h : okL w K ra HK F σ Q ss e') : okL w K ra HK F1 σ Q ss e' := fun vs F' H' s' => h vs F' H' (s.trans s')
theorem pml_val (ha : PM X W a m) (hr : PML X W es r) (hs : starEach (a :: es) X.env = (false, eval a X.env) :: starEach es X.env := by rfl) : PML X W (a :: es) (consV m r) := by
  refine PA.weaken (pa_cons ha hr hs) ?_
  rintro σ H Q ⟨ra, HK, F, e, R, h⟩
  unfold consV at h
  refine step (A := fun F => okL X.w X.K ra HK F σ Q) R h (fun F' c e' s q => okL_mono s q) fun F1 e1 d v H1 s1 R1 r1 q1 => ?_
  refine ⟨ra, HK, F1, e1, R1, wp_mono (wp_bind.mp q1) (fun ss e2 z vs F2 H2 s2 t => ?_) fun _ _ z => z⟩
  exact z (v :: vs) F2 H2 s2 ⟨Rep.mono s2 r1, t⟩
theorem pml_own (ha : PMO X W a mo) (hr : PML X W es r) (hs : starEach (a :: es) X.env = (false, eval a X.env) :: starEach es X.env := by rfl) : PML X W (a :: es) (consO mo r) := by
  refine PA.weaken (pa_cons ha hr hs) ?_
  rintro σ H Q ⟨ra, HK, F, e, R, h⟩
  unfold consO at h
  refine step (A := fun F => okL X.w X.K ra HK F σ Q) R h (fun F' c e' s q => okL_mono s q) fun F1 e1 o v H1 s1 R1 r1 q1 => ?_
  obtain ⟨b, rfl, rp, fb, kb, nb, nd⟩ := id r1
  obtain ⟨u, hu, R2⟩ := R1.pinTO r1
  have hpn : ∀ a, HK.pin a → HK.h a ≠ none := fun a ha => (R1.pn a ha).1
  refine ⟨ra, _, F1, e1, R2, wp_mono (wp_bind.mp q1) (fun ss e2 z vs F2 H2 s2 t => ?_) fun x e2 z cls d σ' F' H' s' R' hx => ?_⟩
  · have hu2 : H2 b = some u := TSl.kept t b u (by show upd HK.h b u b = some u; exact upd_same)
    refine z (.ref b :: vs) F2 H2 s2 ⟨b, u, rfl, kb, hpn, ?_, t⟩
    cases o with
    | lst ds =>
      obtain ⟨us, h1, h2⟩ := rp
      rw [hu] at h1
      exact ⟨us, hu2.trans h1, h2.mono s2⟩
    | dct kvs =>
      obtain ⟨es, ⟨ob, h1, h3⟩, h2⟩ := rp
      rw [hu] at h1
      exact ⟨es, ⟨ob, hu2.trans h1, h3⟩, h2.mono s2⟩
  · exact z cls d σ' F' H' s' (R'.unpin kb hpn).1 hx
def parM (is : List Nat) (r : M (List Slot)) : M Fl := bindM r fun ss => bindM (setAll is ss) fun _ => pureM .nx
theorem par_step {is : List Nat} {D' : Ends} {σ : L2.St} {H : Hp} (h : tS X.w X.K W (parM is r) D' σ H) {Q : List V → Hp → Prop} (k : ∀ vs H1, vs.length = is.length → D'.nx (setS is vs σ) H1 → Q vs H1) : tL X.w X.K W r σ H Q := by
  obtain ⟨ra, HK, F, e, R, h⟩ := h
  unfold parM at h
  refine ⟨ra, HK, F, e, R, wp_mono (wp_bind.mp h) (fun ss e1 z vs F1 H1 s1 t => ?_) fun _ _ z => z⟩
  have z1 := wp_bind.mp z
  cases q : setAll is ss e1 with
  | err =>
    rw [q] at z1
    exact z1.elim
  | exc x e2 => exact absurd q (setAll_quiet _ _ _ _ _)
  | ok u e2 =>
    rw [q] at z1
    have R2 := TSl.set t q
    refine k vs H1 ?_ (z1 _ F1 H1 s1 R2)
    clear z1 z R2
    have : ∀ (is : List Nat) (vs : List V) (ss : List Slot) (HK : Kp) (e1 e2 : Env), TSl vs ss X.w X.K ra HK σ e1 F1 H1 → setAll is ss e1 = .ok () e2 → vs.length = is.length := by
      intro is
      induction is with
      | nil =>
        intro vs ss HK e1 e2 t q
        match vs, ss, t, q with
        | [], [], _, _ => rfl
        | _, _ :: _, _, q => cases q
        | _ :: _, [], t, _ => exact t.elim
      | cons i is ih =>
        intro vs ss HK e1 e2 t q
        match vs, ss, t, q with
        | [], [], _, q => cases q
        | [], _ :: _, t, _ => exact t.elim
        | _ :: _, [], t, _ => exact t.elim
        | v :: vs, .val d :: ss, t, q =>
          obtain ⟨e3, q1, _⟩ := setAll_cons q
          rw [List.length_cons, List.length_cons, ih vs ss HK e1 e3 t.2 q1]
        | v :: vs, .own o :: ss, t, q =>
          obtain ⟨e3, q1, _⟩ := setAll_cons q
          obtain ⟨a, u, _, _, _, _, t⟩ := t
          rw [List.length_cons, List.length_cons, ih vs ss _ e1 e3 t q1]
        | _ :: _, .no :: _, t, _ => exact t.elim
        | _ :: _, .pin :: _, t, _ => exact t.elim
        | v :: vs, .box l :: ss, t, q =>
          obtain ⟨e3, q1, _⟩ := setAll_cons q
          obtain ⟨rfl, rfl, _⟩ := t
          cases is with
          | nil => rfl
          | cons j is => cases q1
    exact this is vs ss HK e1 e2 t q
theorem psm_par2 (i j : Nat) {x y : Str} {a b : Expr} {px py pt pos : Pos} {kt k2 pt2} (ha : PML X W [a, b] r) (hN : X.N.Nodup) (hc : X.calm = true := by rfl) (hi : X.N[i]? = some x := by rfl) (hj : X.N[j]? = some y := by rfl) (hij : i ≠ j := by decide)
    (hx : X.env.scope.names.lookup x = some .local := by rfl) (hy : X.env.scope.names.lookup y = some .local := by rfl) (hw : swappedStores [.Tuple [.Name x px, .Name y py] kt pt] (.Tuple [a, b] k2 pt2) X.env = pure (some [x, y]) := by rfl)
    (hs : swapsWithSole [.Tuple [.Name x px, .Name y py] kt pt] (.Tuple [a, b] k2 pt2) pos.line X.env = pure false := by rfl) : PSM X W (.Assign [.Tuple [.Name x px, .Name y py] kt pt] (.Tuple [a, b] k2 pt2) pos) (parM [i, j] r) := by
  refine PS.weaken (ps_par hc hN hi hj hij hx hy ha hw hs) fun D' σ H h => par_step h fun vs H1 hl z => ?_
  match vs, hl, z with
  | [v, w], _, z =>
    refine ⟨v, w, rfl, ?_⟩
    have e : setS [i, j] [v, w] σ = (σ.set i (some v)).set j (some w) := by
      show (σ.set j (some w)).set i (some v) = _
      exact List.set_comm _ _ (Ne.symm hij)
    rw [← e]
    exact z
end
end Mi

set_option Elab.async false
set_option linter.all false
set_option maxRecDepth 100000
set_option maxHeartbeats 4000000
/-! Mi, part T: the law's row of draws. -/
namespace Mi
open PySem PySem.Spec PyProof.Rows L2
def RowS.get (r : RowS) (k : Nat) : D := match k with
  | 0 => .lst (r.xs.map D.int)
  | 1 => .int r.at_
  | 2 => .int r.big
  | _ => .int r.seed
def RowS.put (r : RowS) (k : Nat) (i : Int) : RowS := match k with
  | 1 => { r with at_ := i }
  | 2 => { r with big := i }
  | _ => { r with seed := i }
/-- row[k] -/
def rowM (i k : Nat) : M D := fun e => match e.sl[i]? with
  | some (.val .row) => if e.row.at_ < 0 then .err else .ok (e.row.get k) e
  | _ => .err
/-- row[k] = n -/
def rowSet (i k : Nat) (m : M D) : M Fl := bindM m fun d => match d with
  | .int n => fun e => (match e.sl[i]? with
    | some (.val .row) => if e.row.at_ < 0 then .err else .ok .nx { e with row := e.row.put k n }
    | _ => .err)
  | _ => errM
theorem Rel.rowPut {w : World} {K : PySem.W.Frag} {ra : Addr} {HK : Kp} {F H : Hp} {e : Env} {σ : L2.St} (R : Rel w K ra HK F e σ H) {r' : RowS} {L : Addr} (hL : F L = some (.lst (r'.xs.map V.int))) : Rel w K ra HK F { e with row := r' } σ (upd H ra (.lst [.ref L, .int r'.at_, .int r'.big, .int r'.seed])) := by
  refine ⟨fun b u q => ?_, fun b u q => ?_, R.len, fun i s h => ?_, R.sep.heap fun i s a h c hs => upd_ne (R.foot h c hs (.inl rfl)).2.2.1, .inr ⟨L, upd_same, hL⟩, R.fra, R.kra, R.pn⟩
  · rw [upd_ne (ne_of_none q R.fra)]
    exact R.fh b u q
  · rw [upd_ne (ne_of_none q R.kra)]
    exact R.kh b u q
  · exact (R.sl i s h).mono (Same.refl F) fun q hc eq p hf => ⟨upd_ne (R.foot h hc eq hf).2.2.1, rfl⟩
theorem rep_ints {w : World} {K : PySem.W.Frag} {ra : Addr} {F : Hp} {L : Addr} {xs : List Int} (h : F L = some (.lst (xs.map V.int))) : Rep w K ra F (.ref L) (.lst (xs.map D.int)) := .lst h (RepA.ofInts xs)
section
variable {X : Cx} {W : WX} {x : Str} {p p2 pos pos2 : Pos} {jj : Nat}
theorem pm_row (i k : Nat) (hk : k < 4 := by decide) (hN : X.N[i]? = some x := by rfl) (hv : Vis X.env.scope x := by first | exact Or.inl rfl | exact Or.inr (Or.inl rfl) | exact Or.inr (Or.inr rfl)) (hd : (x == ("__debug__" : Str)) = false := by decide)
    (hcd : (x == ("__classdict__" : Str)) = false := by decide) : PM X W (.Subscript (.Name x p) (.Constant (.int (k : Nat)) jj p2) pos) (rowM i k) := by
  refine PE.weaken (pe_ix ix_list (pe_var hN hv hd hcd) pe_int (fun _ _ => rfl)) ?_
  rintro σ H Q ⟨ra, HK, F, e, R, h⟩
  unfold rowM at h
  cases q : e.sl[i]? with
  | none =>
    rw [q] at h
    exact h.elim
  | some s =>
    rw [q] at h
    cases s with
    | val d =>
      cases d with
      | row =>
        obtain ⟨v, e1, r⟩ := R.sl i _ q
        cases r
        simp only at h
        by_cases alive : e.row.at_ < 0
        · rw [if_pos alive] at h
          exact h.elim
        rw [if_neg alive] at h
        obtain ⟨L, h1, h2⟩ := R.row.alive alive
        refine ⟨.ref ra, e1, ra, [.ref L, .int e.row.at_, .int e.row.big, .int e.row.seed], (k : Nat), ?_⟩
        match k, hk with
        | 0, _ => exact ⟨.ref L, rfl, rfl, .of h1, rfl, h _ F H (Same.refl F) R (rep_ints h2)⟩
        | 1, _ => exact ⟨.int e.row.at_, rfl, rfl, .of h1, rfl, h _ F H (Same.refl F) R (.int _)⟩
        | 2, _ => exact ⟨.int e.row.big, rfl, rfl, .of h1, rfl, h _ F H (Same.refl F) R (.int _)⟩
        | 3, _ => exact ⟨.int e.row.seed, rfl, rfl, .of h1, rfl, h _ F H (Same.refl F) R (.int _)⟩
      | _ => exact h.elim
    | _ => exact h.elim
theorem psm_row (i k : Nat) {e : Expr} {m : M D} (he : PM X W e m) (hk : 0 < k ∧ k < 4 := by decide) (hN : X.N[i]? = some x := by rfl) (hv : Vis X.env.scope x := by first | exact Or.inl rfl | exact Or.inr (Or.inl rfl) | exact Or.inr (Or.inr rfl)) (hd : (x == ("__debug__" : Str)) = false := by decide)
    (hcd : (x == ("__classdict__" : Str)) = false := by decide) (hs : swapsWithSole [.Subscript (.Name x p) (.Constant (.int (k : Nat)) jj p2) pos] e pos2.line X.env = pure false := by rfl) (hw : swappedStores [.Subscript (.Name x p) (.Constant (.int (k : Nat)) jj p2) pos] e X.env = pure none := by rfl)
    (h1 : (assignEach [.Subscript (.Name x p) (.Constant (.int (k : Nat)) jj p2) pos] X.env).map (·.2) = [assign (.Subscript (.Name x p) (.Constant (.int (k : Nat)) jj p2) pos) X.env] := by rfl) : PSM X W (.Assign [.Subscript (.Name x p) (.Constant (.int (k : Nat)) jj p2) pos] e pos2) (rowSet i k m) := by
  refine PS.weaken (ps_asg he (pg_sub (pe_var hN hv hd hcd) pe_int set_list) hs hw h1) ?_
  rintro D' σ H ⟨ra, HK, F, e, R, h⟩
  unfold rowSet at h
  refine stepS R h fun F1 e1 d v H1 s1 R1 r1 q1 => ?_
  cases d with
  | int n =>
    cases r1
    simp only at q1
    cases q : e1.sl[i]? with
    | none =>
      rw [q] at q1
      exact q1.elim
    | some s =>
      rw [q] at q1
      cases s with
      | val d =>
        cases d with
        | row =>
          obtain ⟨v, e2, r⟩ := R1.sl i _ q
          cases r
          simp only at q1
          by_cases alive : e1.row.at_ < 0
          · rw [if_pos alive] at q1
            exact q1.elim
          rw [if_neg alive] at q1
          obtain ⟨L, h5, h2⟩ := R1.row.alive alive
          have q2 : okS X.w X.K ra HK F1 D' .nx { e1 with row := e1.row.put k n } := q1
          match k, hk with
          | 1, _ => exact ⟨.ref ra, e2, ra, [.ref L, .int e1.row.at_, .int e1.row.big, .int e1.row.seed], 1, 1, rfl, rfl, h5, rfl, q2 σ F1 _ (Same.refl F1) (R1.rowPut (r' := e1.row.put 1 n) h2)⟩
          | 2, _ => exact ⟨.ref ra, e2, ra, [.ref L, .int e1.row.at_, .int e1.row.big, .int e1.row.seed], 2, 2, rfl, rfl, h5, rfl, q2 σ F1 _ (Same.refl F1) (R1.rowPut (r' := e1.row.put 2 n) h2)⟩
          | 3, _ => exact ⟨.ref ra, e2, ra, [.ref L, .int e1.row.at_, .int e1.row.big, .int e1.row.seed], 3, 3, rfl, rfl, h5, rfl, q2 σ F1 _ (Same.refl F1) (R1.rowPut (r' := e1.row.put 3 n) h2)⟩
        | _ => exact q1.elim
      | _ => exact q1.elim
  | _ => exact q1.elim
end
end Mi

set_option Elab.async false
set_option linter.all false
set_option maxRecDepth 100000
set_option maxHeartbeats 4000000
/-! Mi, part U: what is asked of the snapshot; the law's own def. -/
namespace Mi
open PySem PySem.Spec PyProof.Rows L2
/-! ### constants that are tuples -/
mutual
def repB (K : PySem.W.Frag) : Nat → Value → D → Bool
  | 0, _, _ => false
  | n + 1, u, d => match u, d with
    | .none, .non => true
    | .int i _, .int j => decide (i = j)
    | .ref a, .tup ds => (match K.lookup a with
      | some ⟨.type "tuple", _, .seq its _, _⟩ => decide (its.size ≤ 1000) && repsB K n its.toList ds
      | _ => false)
    | _, _ => false
def repsB (K : PySem.W.Frag) : Nat → List Value → List D → Bool
  | 0, _, _ => false
  | n + 1, us, ds => match us, ds with
    | [], [] => true
    | u :: us, d :: ds => repB K n u d && repsB K n us ds
    | _, _ => false
end
mutual
theorem repB_ok {K : PySem.W.Frag} : ∀ {n : Nat} {u : Value} {d : D}, repB K n u d = true → ∃ v, RelV v u ∧ ∀ w ra F, Rep w K ra F v d
  | 0, u, d, h => by
    unfold repB at h
    cases h
  | n + 1, u, d, h => by
    unfold repB at h
    split at h
    · exact ⟨.non, rfl, fun _ _ _ => .non⟩
    · rename_i i t j
      have e := of_decide_eq_true h
      subst e
      exact ⟨.int i, ⟨t, rfl⟩, fun _ _ _ => .int i⟩
    · rename_i a ds
      split at h
      · rename_i dd its nn sl hl
        simp only [Bool.and_eq_true, decide_eq_true_eq] at h
        obtain ⟨h1, h2⟩ := h
        obtain ⟨vs, r, k⟩ := repsB_ok h2
        refine ⟨.ref a, rfl, fun w ra F => .tup (.inr ⟨_, its, nn, hl, rfl, rfl, Nat.le_trans h1 (by decide), r⟩) (k w ra F)⟩
      · cases h
    · cases h
theorem repsB_ok {K : PySem.W.Frag} : ∀ {n : Nat} {us : List Value} {ds : List D}, repsB K n us ds = true → ∃ vs, Vals vs us ∧ ∀ w ra F, RepA w K ra F vs ds
  | 0, us, ds, h => by
    unfold repsB at h
    cases h
  | n + 1, us, ds, h => by
    unfold repsB at h
    split at h
    · exact ⟨[], .nil, fun _ _ _ => .nil⟩
    · rename_i u us d ds
      simp only [Bool.and_eq_true] at h
      obtain ⟨v, r1, k1⟩ := repB_ok h.1
      obtain ⟨vs, r2, k2⟩ := repsB_ok h.2
      exact ⟨v :: vs, .cons r1 r2, fun w ra F => .cons (k1 w ra F) (k2 w ra F)⟩
    · cases h
end
/-! ### the facts beyond the head's own -/
def cB (K : PySem.W.Frag) (c : Str) : Bool := decide (PySem.W.findIn K (.ref (He.ga K c)) "__getattribute__" = some (some (.builtin "BaseException.__getattribute__"))) && (decide (PySem.W.findIn K (.ref (He.ga K c)) "__getattr__" = some none) && (decide (PySem.W.subIn K (.ref (He.ga K c)) (.type "BaseException") = some true) &&
  (PySem.W.hasDictIn K (He.ga K c) && (decide (PySem.W.findIn K (.ref (He.ga K c)) "__class__" = some (some (.builtin "object.__class__"))) && (decide (PySem.W.mroIn K (He.ga K c) (.type "object") = some true) && decide (PySem.W.kitOne K (.ref (He.ga K c)) (.ref (He.ga K "CutError")) = some true))))))
def oB (K : PySem.W.Frag) : Bool := decide (PySem.W.specialIn K (.builtin "object.__class__") "__get__" = some (some (.builtin "getset_descriptor.__get__"))) && decide (PySem.W.takesIn K (.builtin "object.__class__") = some true)
def rB (K : PySem.W.Frag) (tys : List String) : Bool := decide (PySem.W.findIn K (.ref (He.ga K "Rule")) "__class__" = some (some (.builtin "object.__class__"))) && (decide (PySem.W.mroIn K (He.ga K "Rule") (.type "object") = some true) &&
  (tys.all (fun t => decide (PySem.W.kitOne K (.ref (He.ga K "Rule")) (.type t) = some false)) && (decide (PySem.W.kitOne K (.ref (He.ga K "Rule")) (.ref (He.ga K "Rule")) = some true) &&
    (["NoneType", "bool", "int", "str", "list", "tuple", "dict"] : List String).all fun t => decide (PySem.W.kitOne K (.type t) (.ref (He.ga K "Rule")) = some false))))
def exB (errs : List Str) (tys : List String) (ks : List (Str × D)) (K : PySem.W.Frag) : Bool :=
  (errs.all (cB K) && errs.all fun c => errs.all fun d => decide (PySem.W.exmOne K (.ref (He.ga K c)) (.ref (He.ga K d)) = some (exSub c d))) && (oB K && (rB K tys && ks.all fun p => repB K 5 (.ref (He.ga K p.1)) p.2))
structure Ex (errs : List Str) (tys : List String) (ks : List (Str × D)) (K : PySem.W.Frag) : Prop where
  i : ∀ c ∈ errs, ExcC K (He.ga K c)
  m : ∀ c ∈ errs, ∀ d ∈ errs, PySem.W.exmOne K (.ref (He.ga K c)) (.ref (He.ga K d)) = some (exSub c d)
  k : ∀ c ∈ errs, PySem.W.kitOne K (.ref (He.ga K c)) (.ref (He.ga K "CutError")) = some true
  ri : Cls K (He.ga K "Rule") → RuleIs K
  ki : ∀ t ∈ tys, PySem.W.kitOne K (.ref (He.ga K "Rule")) (.type t) = some false
  kRR : PySem.W.kitOne K (.ref (He.ga K "Rule")) (.ref (He.ga K "Rule")) = some true
  kTR : ∀ t ∈ (["NoneType", "bool", "int", "str", "list", "tuple", "dict"] : List String), PySem.W.kitOne K (.type t) (.ref (He.ga K "Rule")) = some false
  rp : ∀ p ∈ ks, ∀ w ra F, Rep w K ra F (.ref (He.ga K p.1)) p.2
theorem ex_of {errs : List Str} {tys : List String} {ks : List (Str × D)} {K : PySem.W.Frag} (h : exB errs tys ks K = true) : Ex errs tys ks K := by
  unfold exB oB rB at h
  simp only [Bool.and_eq_true, decide_eq_true_eq, List.all_eq_true] at h
  obtain ⟨⟨h1, h2⟩, ⟨h3, h4⟩, ⟨h5, h6, h7, h8, h9⟩, h10⟩ := h
  have cc : ∀ c ∈ errs, _ := fun c hc => by
    have := h1 c hc
    unfold cB at this
    simp only [Bool.and_eq_true, decide_eq_true_eq] at this
    exact this
  refine ⟨fun c hc => ?_, h2, fun c hc => (cc c hc).2.2.2.2.2.2, fun cl => ⟨cl, h5, h3, h4, h6⟩, h7, h8, h9, fun p hp w ra F => ?_⟩
  · obtain ⟨a1, a2, a3, a4, a5, a6, a7⟩ := cc c hc
    exact ⟨a1, a2, a3, a4, a5, h3, h4, a6⟩
  · obtain ⟨v, r, k⟩ := repB_ok (h10 p hp)
    have : v = .ref (He.ga K p.1) := by
      cases v with
      | ref a => cases (show Value.ref (He.ga K p.1) = Value.ref a from r); rfl
      | non => cases r
      | bl b => cases r
      | int i => obtain ⟨t, r⟩ := r; cases r
      | str z => obtain ⟨t, r⟩ := r; cases r
      | _ => first
        | (obtain ⟨t, r⟩ := r; cases r; done)
        | (cases r; done)
    rw [← this]
    exact k w ra F
/-! ### the Hook -/
abbrev AlM : Type := He.AlD × Bool
def obsM (fa : List He.Fa) (fn : List He.DefD) (ex : PySem.W.Frag → Bool) (K : PySem.W.Frag) : AlM := (He.obsD fa fn K, ex K)
theorem excF_of {K : PySem.W.Frag} {mg : Str → Option Value} {x : Str} (c : (He.Fa.exc x).ok K = true) (g : mg x = some (.ref (He.ga K x))) : ExcF K mg x :=
  let ⟨a, b, d, e⟩ := He.exc_ok c
  ⟨a, b, d, e, g⟩
/-! ### the law's own def -/
section
variable {P : Program} {w : World} {K : PySem.W.Frag} {mg : Str → Option Value} {base : Heap}
/-- _law_draws: the row of a script -/
def spDraws (K : PySem.W.Frag) : Sp := fun vs H Q _ => ∃ (a : Addr) (ns : List Int), vs = [.ref a] ∧ SqL K H a (ns.map V.int) ∧ ns.length ≤ 1000 ∧ ∀ L r, H L = none → (upd H L (.lst (ns.map V.int))) r = none → Q (.ref r) (upd (upd H L (.lst (ns.map V.int))) r (.lst [.ref L, .int 0, .int 0, .int 7]))
def spLaw (K : PySem.W.Frag) (ok : List Int → Prop) : Sp := fun vs H Q _ => ∃ (a : Addr) (ns : List Int), vs = [.ref a] ∧ SqL K H a (ns.map V.int) ∧ ns.length ≤ 1000 ∧ ok ns ∧ ∀ H', Q (.bl true) H'
/-- the row as it begins -/
def row0 (ns : List Int) : RowS := ⟨ns, 0, 0, 7⟩
theorem law_read {m : M Fl} {n : Nat} {ok : List Int → Prop} {vs : List V} {H : Hp} {Q : VK} {E : XK} {N : List Str} (hN : N.length = n + 2) (hm : ∀ ns, ok ns → ∃ e, m ⟨.no :: .val .row :: List.replicate n .no, row0 ns⟩ = .ok (.rt (.bl true)) e) (h : spLaw K ok vs H Q E) :
    tSeq (tAsg (tCall (spDraws K) [] E0 (tCons (tVar 0) tNil)) (gName 1)) (tS w K (fun cls d _ H' => E cls d H') m) { nx := fun _ H' => Q .non H', rt := Q } (L2.start N vs) H := by
  obtain ⟨a, ns, rfl, hS, hl, ho, q⟩ := h
  refine ⟨.ref a, by unfold L2.start; rfl, a, ns, rfl, hS, hl, fun L r hL hr => ?_⟩
  have hne : r ≠ L := fun z => by
    rw [z, upd_same] at hr
    cases hr
  obtain ⟨e, he⟩ := hm ns ho
  have est : (L2.start N [.ref a]).set 1 (some (V.ref r)) = some (.ref a) :: some (.ref r) :: List.replicate n none := by
    unfold L2.start
    rw [hN]
    simp [List.replicate_succ]
  show tS w K _ m _ ((L2.start N [.ref a]).set 1 (some (V.ref r))) _
  rw [est]
  have fL : (upd (fun _ => none : Hp) L (.lst (ns.map V.int))) L = some (.lst (ns.map V.int)) := upd_same
  refine ⟨r, ⟨fun _ => none, fun _ => False, .non⟩, upd (fun _ => none) L (.lst (ns.map V.int)), ⟨.no :: .val .row :: List.replicate n .no, row0 ns⟩, ⟨fun b u z => ?_, (fun b u z => by cases z), by simp, fun i s hi => ?_, fun i j s1 s2 a a' p hij h1 h2 c1 c2 h3 h4 => ?_, .inr ⟨L, upd_same, fL⟩, by rw [upd_ne hne], rfl, fun b hb => hb.elim⟩, by rw [he]; exact fun σ' F' H' s' R' v rv => by cases rv; exact q H'⟩
  · by_cases c : b = L
    · rw [c, upd_same] at z
      cases z
      rw [c, upd_ne hne.symm, upd_same]
    · rw [upd_ne c] at z
      cases z
  · match i, hi with
    | 0, hi => cases hi; trivial
    | 1, hi => cases hi; exact ⟨.ref r, rfl, .row⟩
    | i + 2, hi =>
      have hi' : (List.replicate n Slot.no)[i]? = some s := hi
      rw [List.getElem?_replicate] at hi'
      split at hi'
      · cases hi'
        trivial
      · cases hi'
  · exfalso
    match i, h1 with
    | 0, h1 => cases h1; cases c1
    | 1, h1 => cases h1; cases c1
    | i + 2, h1 =>
      have hi' : (List.replicate n Slot.no)[i]? = some s1 := h1
      rw [List.getElem?_replicate] at hi'
      split at hi'
      · cases hi'
        cases c1
      · cases hi'
end
/-- whatever the clock of the world -/
def CXA (P : Program) : CXT := fun outer H s E u s' => ∃ w, L2.CX P w outer H s E u s'
theorem FnOk.any {P : Program} {w : World} {K : PySem.W.Frag} {mg : Str → Option Value} {base : Heap} {k : Nat} {f : Addr} {fd : FuncData} {ps : List Str} {sp : Sp} (F : FnOk P w K mg base (L2.CX P w) k f fd ps sp) : FnOk P w K mg base (CXA P) k f fd ps sp :=
  ⟨F.len, fun A outer s H args us vs Q E hr e0 hb r h => codeAny_mono (F.run A outer s H args us vs Q E hr e0 hb r h) fun z s' hq => by
    cases z with
    | error e => exact ⟨w, hq⟩
    | ok fl =>
      cases fl with
      | ret v => exact hq
      | next => exact hq
      | brk => exact hq
      | cont => exact hq⟩
theorem CXA.no {P : Program} (H : Hp) (s : Shared) (e : Value) (s' : Shared) (h : CXA P [] H s (fun _ _ _ => False) e s') : False := by
  obtain ⟨w, a, B, H', cls, d, _, _, _, _, _, _, _, z⟩ := h
  exact z
end Mi

set_option Elab.async false
set_option linter.all false
set_option maxRecDepth 100000
set_option maxHeartbeats 4000000
/-! Mi, part V: the mirror's words at a state. -/
namespace Mi
open PySem
/-- keeps the rewriting out of what comes later -/
inductive Tag {α : Type} (a : α) : Type where
  | mk
def Res.bind {α β : Type} (r : Res α) (f : α → M β) (_ : Tag f := .mk) : Res β := match r with
  | .ok a e => f a e
  | .exc x e => .exc x e
  | .err => .err
@[simp] theorem Res.bind_ok {α β : Type} (a : α) (e : Env) (f : α → M β) (t : Tag f) : (Res.ok a e).bind f t = f a e := rfl
@[simp] theorem Res.bind_exc {α β : Type} (x : Exn) (e : Env) (f : α → M β) (t : Tag f) : (Res.exc x e).bind f t = .exc x e := rfl
@[simp] theorem Res.bind_err {α β : Type} (f : α → M β) (t : Tag f) : (Res.err : Res α).bind f t = .err := rfl
def Res.map {α β : Type} (r : Res α) (f : α → β) : Res β := match r with
  | .ok a e => .ok (f a) e
  | .exc x e => .exc x e
  | .err => .err
@[simp] theorem Res.map_ok {α β : Type} (a : α) (e : Env) (f : α → β) : (Res.ok a e).map f = .ok (f a) e := rfl
@[simp] theorem Res.map_exc {α β : Type} (x : Exn) (e : Env) (f : α → β) : (Res.exc x e).map f = .exc x e := rfl
@[simp] theorem Res.map_err {α β : Type} (f : α → β) : (Res.err : Res α).map f = .err := rfl
section
variable {α β : Type} {m : M α} {f : α → M β} {e : Env} {sl : List Slot} {row : RowS}
@[simp ↓] theorem bindM_app (m : M α) (f : α → M β) (e : Env) : bindM m f e = (m e).bind f := rfl
@[simp ↓] theorem pureM_app (a : α) (e : Env) : pureM a e = .ok a e := rfl
@[simp ↓] theorem errM_app (e : Env) : (errM : M α) e = .err := rfl
@[simp] theorem liftO_some (a : α) (e : Env) : liftO (some a) e = .ok a e := rfl
@[simp] theorem liftO_none (e : Env) : (liftO (none : Option α)) e = .err := rfl
/-! reading slots -/
def rdS (s : Option Slot) (i : Nat) (sl : List Slot) (row : RowS) : Res D := match s with
  | some (.val d) => .ok d ⟨sl, row⟩
  | some (.own o) => .ok o.d ⟨sl.set i (.val o.d), row⟩
  | some (.box l) => .ok (boxD l) ⟨sl.set i (.val (boxD l)), row⟩
  | _ => .err
@[simp] theorem rdS_val (d : D) (i : Nat) (sl : List Slot) (row : RowS) : rdS (some (.val d)) i sl row = .ok d ⟨sl, row⟩ := rfl
@[simp] theorem rdS_box (l : List (D × List D)) (i : Nat) (sl : List Slot) (row : RowS) : rdS (some (.box l)) i sl row = .ok (boxD l) ⟨sl.set i (.val (boxD l)), row⟩ := rfl
@[simp] theorem rdS_own (o : OD) (i : Nat) (sl : List Slot) (row : RowS) : rdS (some (.own o)) i sl row = .ok o.d ⟨sl.set i (.val o.d), row⟩ := rfl
@[simp] theorem od_lst (l : List D) : (OD.lst l).d = .lst l := rfl
@[simp] theorem od_dct (l : List (D × D)) : (OD.dct l).d = .dct l := rfl
@[simp ↓] theorem readM_app (i : Nat) (sl : List Slot) (row : RowS) : readM i ⟨sl, row⟩ = rdS sl[i]? i sl row := by
  unfold readM rdS
  cases sl[i]? with
  | none => rfl
  | some s => cases s <;> rfl
/-- the value of a slot -/
def pkS (s : Option Slot) (e : Env) : Res D := match s with
  | some (.val d) => .ok d e
  | some (.own o) => .ok o.d e
  | _ => .err
@[simp] theorem pkS_val (d : D) (e : Env) : pkS (some (.val d)) e = .ok d e := rfl
@[simp] theorem pkS_own (o : OD) (e : Env) : pkS (some (.own o)) e = .ok o.d e := rfl
def rfS (s : Option Slot) (i : Nat) (e : Env) : Res Ref := match s with
  | some (.val _) => .ok (.slot i) e
  | some (.own _) => .ok (.slot i) e
  | some (.box _) => .ok (.slot i) e
  | _ => .err
@[simp] theorem rfS_val (d : D) (i : Nat) (e : Env) : rfS (some (.val d)) i e = .ok (.slot i) e := rfl
@[simp] theorem rfS_box (l : List (D × List D)) (i : Nat) (e : Env) : rfS (some (.box l)) i e = .ok (.slot i) e := rfl
@[simp] theorem rfS_own (o : OD) (i : Nat) (e : Env) : rfS (some (.own o)) i e = .ok (.slot i) e := rfl
@[simp ↓] theorem refM_app (i : Nat) (e : Env) : refM i e = rfS e.sl[i]? i e := by
  unfold refM rfS
  cases e.sl[i]? with
  | none => rfl
  | some s => cases s <;> rfl
@[simp] theorem derefM_val (d : D) (e : Env) : derefM (.val d) e = .ok d e := rfl
@[simp] theorem derefM_slot (i : Nat) (e : Env) : derefM (.slot i) e = pkS e.sl[i]? e := by
  unfold derefM pkS
  try simp only
  all_goals (cases e.sl[i]? with
  | none => rfl
  | some s => cases s <;> rfl)
@[simp ↓] theorem mapM'_app (m : M α) (g : α → β) (e : Env) : mapM' m g e = (m e).map g := by
  unfold mapM' bindM Res.map
  cases m e <;> rfl
/-! operators -/
@[simp ↓] theorem op1M_app (ma : M Ref) (g : D → Option D) (e : Env) : op1M ma g e = (ma e).bind fun x => bindM (derefM x) fun d => liftO (g d) := rfl
@[simp ↓] theorem op1O_app (ma : M Ref) (g : D → Option OD) (e : Env) : op1O ma g e = (ma e).bind fun x => bindM (derefM x) fun d => liftO (g d) := rfl
@[simp ↓] theorem op2M_app (ma mb : M Ref) (g : D → D → Option D) (e : Env) : op2M ma mb g e = (ma e).bind fun x => bindM mb fun y => bindM (derefM x) fun d => bindM (derefM y) fun d' => liftO (g d d') := rfl
@[simp ↓] theorem opLM_app (r : M (List D)) (g : List D → Option D) (e : Env) : opLM r g e = (r e).bind fun l => liftO (g l) := rfl
def tsD (d : D) (e : Env) : Res Bool := match d with
  | .bl b => .ok b e
  | _ => .err
@[simp] theorem tsD_bl (b : Bool) (e : Env) : tsD (.bl b) e = .ok b e := rfl
@[simp ↓] theorem testM_app (m : M D) (e : Env) : testM m e = (m e).bind tsD := by
  unfold testM bindM Res.bind
  cases m e with
  | ok d e => cases d <;> rfl
  | exc x e => rfl
  | err => rfl
@[simp ↓] theorem negM_app (m : M D) (e : Env) : negM m e = (m e).bind fun d => match d with
  | .int i => pureM (.int (-i))
  | _ => errM := rfl
@[simp ↓] theorem partM_app (m : M D) (e : Env) : partM m e = (m e).bind fun d => match d with
  | .int i => pureM (some i)
  | _ => errM := rfl
@[simp ↓] theorem consM_app (m : M D) (r : M (List D)) (e : Env) : consM m r e = (m e).bind fun d => bindM r fun ds => pureM (d :: ds) := rfl
@[simp ↓] theorem starM_app (m : M Ref) (r : M (List D)) (e : Env) : starM m r e = (m e).bind fun x => bindM (derefM x) fun d => match d.items with
  | some xs => bindM r fun ds => pureM (xs ++ ds)
  | none => errM := rfl
@[simp ↓] theorem tupM_app (r : M (List D)) (e : Env) : tupM r e = (r e).bind fun ds => bindM (small ds) fun _ => pureM (.tup ds) := rfl
@[simp ↓] theorem lstM_app (r : M (List D)) (e : Env) : lstM r e = (r e).bind fun ds => bindM (small ds) fun _ => pureM (.lst ds) := rfl
@[simp ↓] theorem giveM_app (m : M OD) (e : Env) : giveM m e = (m e).map OD.d := mapM'_app _ _ _
@[simp ↓] theorem sliceM_app (m : M Ref) (ml mh : M (Option Int)) (e : Env) : sliceM m ml mh e = (m e).bind fun x => bindM ml fun lo => bindM mh fun hi => bindM (derefM x) fun d => liftO (cutF d lo hi) := rfl
theorem small_ok {l : List α} (h : l.length ≤ 1000000) (e : Env) : small l e = .ok () e := if_pos h
def andD (d : D) (n : M D) (e : Env) (_ : Tag n := .mk) : Res D := match d with
  | .bl true => n e
  | .bl false => .ok (.bl false) e
  | _ => .err
def orD (d : D) (n : M D) (e : Env) (_ : Tag n := .mk) : Res D := match d with
  | .bl true => .ok (.bl true) e
  | .bl false => n e
  | _ => .err
def notD (d : D) (e : Env) : Res D := match d with
  | .bl b => .ok (.bl (!b)) e
  | _ => .err
@[simp] theorem andD_true (n : M D) (e : Env) (t : Tag n) : andD (.bl true) n e t = n e := rfl
@[simp] theorem andD_false (n : M D) (e : Env) (t : Tag n) : andD (.bl false) n e t = .ok (.bl false) e := rfl
@[simp] theorem orD_true (n : M D) (e : Env) (t : Tag n) : orD (.bl true) n e t = .ok (.bl true) e := rfl
@[simp] theorem orD_false (n : M D) (e : Env) (t : Tag n) : orD (.bl false) n e t = n e := rfl
@[simp] theorem notD_bl (b : Bool) (e : Env) : notD (.bl b) e = .ok (.bl (!b)) e := rfl
@[simp ↓] theorem andV_app (m n : M D) (e : Env) : andV m n e = (m e).bind fun d e => andD d n e := by
  unfold andV bindM Res.bind
  cases m e with
  | ok d e1 => (cases d with
    | bl b => cases b <;> rfl
    | _ => rfl)
  | exc x e1 => rfl
  | err => rfl
@[simp ↓] theorem orV_app (m n : M D) (e : Env) : orV m n e = (m e).bind fun d e => orD d n e := by
  unfold orV bindM Res.bind
  cases m e with
  | ok d e1 => (cases d with
    | bl b => cases b <;> rfl
    | _ => rfl)
  | exc x e1 => rfl
  | err => rfl
@[simp ↓] theorem notV_app (m : M D) (e : Env) : notV m e = (m e).bind notD := by
  unfold notV bindM Res.bind
  cases m e with
  | ok d e1 => cases d <;> rfl
  | exc x e1 => rfl
  | err => rfl
def iteR (c : Bool) (m n : M α) (e : Env) (_ : Tag m := .mk) (_ : Tag n := .mk) : Res α := if c = true then m e else n e
@[simp] theorem iteR_true (m n : M α) (e : Env) (t : Tag m) (u : Tag n) : iteR true m n e t u = m e := rfl
@[simp] theorem iteR_false (m n : M α) (e : Env) (t : Tag m) (u : Tag n) : iteR false m n e t u = n e := rfl
@[simp ↓] theorem iteM_app (t : M Bool) (m n : M α) (e : Env) : iteM t m n e = (t e).bind fun c e => iteR c m n e := by
  unfold iteM bindM Res.bind
  cases t e with
  | ok d e1 => cases d <;> rfl
  | exc x e1 => rfl
  | err => rfl
@[simp ↓] theorem andT_app (m n : M Bool) (e : Env) : andT m n e = (m e).bind fun c e => iteR c n (pureM false) e := by
  unfold andT bindM Res.bind
  cases m e with
  | ok d e1 => cases d <;> rfl
  | exc x e1 => rfl
  | err => rfl
@[simp ↓] theorem orT_app (m n : M Bool) (e : Env) : orT m n e = (m e).bind fun c e => iteR c (pureM true) n e := by
  unfold orT bindM Res.bind
  cases m e with
  | ok d e1 => cases d <;> rfl
  | exc x e1 => rfl
  | err => rfl
@[simp ↓] theorem notT_app (m : M Bool) (e : Env) : notT m e = (m e).map (!·) := by
  unfold notT bindM Res.map
  cases m e <;> rfl
def chD (o o' : Int → Int → Bool) (x y : D) (k : M D) (e : Env) (_ : Tag k := .mk) : Res D := match x, y with
  | .int i, .int j => if o i j = true then (k e).bind (fun z => match z with
    | .int l => pureM (.bl (o' j l))
    | _ => errM) else .ok (.bl false) e
  | _, _ => .err
@[simp ↓] theorem chainM_app (o o' : Int → Int → Bool) (m n k : M D) (e : Env) : chainM o o' m n k e = (m e).bind fun x => bindM n fun y e => chD o o' x y k e := by
  unfold chainM bindM Res.bind
  cases m e with
  | ok d e1 =>
    simp only
    cases n e1 with
    | ok d' e2 =>
      cases d <;> cases d' <;> try rfl
      rename_i i j
      show (if o i j = true then _ else _ : M D) e2 = chD o o' _ _ k e2
      unfold chD
      by_cases c : o i j = true
      · simp only [if_pos c]
        rfl
      · simp only [if_neg c]
        rfl
    | exc x e2 => rfl
    | err => rfl
  | exc x e1 => rfl
  | err => rfl
/-! statements -/
def seqR (fl : Fl) (n : M Fl) (e : Env) (_ : Tag n := .mk) : Res Fl := match fl with
  | .nx => n e
  | fl => .ok fl e
@[simp] theorem seqR_nx (n : M Fl) (e : Env) (t : Tag n) : seqR .nx n e t = n e := rfl
@[simp] theorem seqR_rt (d : D) (n : M Fl) (e : Env) (t : Tag n) : seqR (.rt d) n e t = .ok (.rt d) e := rfl
@[simp] theorem seqR_bk (n : M Fl) (e : Env) (t : Tag n) : seqR .bk n e t = .ok .bk e := rfl
@[simp] theorem seqR_ct (n : M Fl) (e : Env) (t : Tag n) : seqR .ct n e t = .ok .ct e := rfl
@[simp ↓] theorem seqM_app (m n : M Fl) (e : Env) : seqM m n e = (m e).bind fun fl e => seqR fl n e := by
  unfold seqM bindM Res.bind
  cases m e with
  | ok d e1 => cases d <;> rfl
  | exc x e1 => rfl
  | err => rfl
@[simp ↓] theorem nxM_app (e : Env) : nxM e = .ok .nx e := rfl
@[simp ↓] theorem retM_app (m : M D) (e : Env) : retM m e = (m e).map Fl.rt := by
  unfold retM bindM Res.map
  cases m e <;> rfl
@[simp ↓] theorem dropM_app (m : M α) (e : Env) : dropM m e = (m e).map fun _ => Fl.nx := by
  unfold dropM bindM Res.map
  cases m e <;> rfl
@[simp ↓] theorem raiseM_app (c : Str) (e : Env) : raiseM c e = .exc ⟨c, []⟩ e := rfl
def setR (i : Nat) (s : Slot) (sl : List Slot) (row : RowS) : Res Unit := if i < sl.length then .ok () ⟨sl.set i s, row⟩ else .err
@[simp ↓] theorem setM_app (i : Nat) (s : Slot) (sl : List Slot) (row : RowS) : setM i s ⟨sl, row⟩ = setR i s sl row := rfl
@[simp ↓] theorem asgM_app (i : Nat) (m : M D) (e : Env) : asgM i m e = (m e).bind fun d => bindM (setM i (.val d)) fun _ => pureM .nx := rfl
@[simp ↓] theorem asgO_app (i : Nat) (m : M OD) (e : Env) : asgO i m e = (m e).bind fun d => bindM (setM i (.own d)) fun _ => pureM .nx := rfl
@[simp ↓] theorem asgG_app (m : M D) (g : D → M Unit) (e : Env) : asgG m g e = (m e).bind fun d => bindM (g d) fun _ => pureM .nx := rfl
@[simp ↓] theorem gN_app (i : Nat) (d : D) (e : Env) : gN i d e = setM i (.val d) e := rfl
@[simp] theorem gsNil_nil (e : Env) : gsNil [] e = .ok () e := rfl
@[simp] theorem gsCons_cons (g : D → M Unit) (gs : List D → M Unit) (d : D) (ds : List D) (e : Env) : gsCons g gs (d :: ds) e = (g d e).bind fun _ => gs ds := rfl
@[simp] theorem gTup2 (gs : List D → M Unit) (a b : D) (e : Env) : gTupM 2 gs (.tup [a, b]) e = gs [a, b] e := rfl
@[simp] theorem gTup3 (gs : List D → M Unit) (a b c : D) (e : Env) : gTupM 3 gs (.tup [a, b, c]) e = gs [a, b, c] e := rfl
@[simp] theorem gTup4 (gs : List D → M Unit) (a b c d : D) (e : Env) : gTupM 4 gs (.tup [a, b, c, d]) e = gs [a, b, c, d] e := rfl
@[simp ↓] theorem consV_app (m : M D) (r : M (List Slot)) (e : Env) : consV m r e = (m e).bind fun d => bindM r fun ss => pureM (.val d :: ss) := rfl
@[simp ↓] theorem consO_app (m : M OD) (r : M (List Slot)) (e : Env) : consO m r e = (m e).bind fun d => bindM r fun ss => pureM (.own d :: ss) := rfl
@[simp ↓] theorem parM_app (is : List Nat) (r : M (List Slot)) (e : Env) : parM is r e = (r e).bind fun ss => bindM (setAll is ss) fun _ => pureM .nx := rfl
@[simp] theorem setAll_nil (e : Env) : setAll [] [] e = .ok () e := rfl
@[simp] theorem setAll_cons' (i : Nat) (is : List Nat) (s : Slot) (ss : List Slot) (e : Env) : setAll (i :: is) (s :: ss) e = (setAll is ss e).bind fun _ => setM i s := rfl
@[simp ↓] theorem valM_app (i : Nat) (e : Env) : valM i e = (match e.sl[i]? with
  | some (.val d) => .ok d e
  | _ => .err) := rfl
@[simp ↓] theorem augM_app (i : Nat) (m : M D) (g : D → D → Option D) (e : Env) : augM i m g e = (valM i e).bind fun x => bindM m fun d => bindM (liftO (g x d)) fun z => bindM (setM i (.val z)) fun _ => pureM .nx := rfl
def olS (s : Option Slot) (e : Env) : Res (List D) := match s with
  | some (.own (.lst l)) => .ok l e
  | _ => .err
@[simp] theorem olS_own (l : List D) (e : Env) : olS (some (.own (.lst l))) e = .ok l e := rfl
@[simp ↓] theorem ownL_app (i : Nat) (e : Env) : ownL i e = olS e.sl[i]? e := by
  unfold ownL olS
  cases e.sl[i]? with
  | none => rfl
  | some s => cases s <;> first | rfl | (rename_i o; cases o <;> rfl)
@[simp ↓] theorem appM_app (i : Nat) (m : M D) (e : Env) : appM i m e = (ownL i e).bind fun _ => bindM m fun d => bindM (ownL i) fun l => bindM (small (l ++ [d])) fun _ => bindM (setM i (.own (.lst (l ++ [d])))) fun _ => pureM .nx := rfl
@[simp ↓] theorem forL_app (mi : M (List D)) (g : D → M Unit) (b : M Fl) (e : Env) : forL mi g b e = (mi e).bind fun ds => forM' g b ds := rfl
@[simp] theorem forM'_nil (g : D → M Unit) (b : M Fl) (e : Env) : forM' g b [] e = .ok .nx e := rfl
def forR (fl : Fl) (n : M Fl) (e : Env) (_ : Tag n := .mk) : Res Fl := match fl with
  | .nx => n e
  | .ct => n e
  | .bk => .ok .nx e
  | .rt d => .ok (.rt d) e
@[simp] theorem forR_nx (n : M Fl) (e : Env) (t : Tag n) : forR .nx n e t = n e := rfl
@[simp] theorem forR_ct (n : M Fl) (e : Env) (t : Tag n) : forR .ct n e t = n e := rfl
@[simp] theorem forR_bk (n : M Fl) (e : Env) (t : Tag n) : forR .bk n e t = .ok .nx e := rfl
@[simp] theorem forR_rt (d : D) (n : M Fl) (e : Env) (t : Tag n) : forR (.rt d) n e t = .ok (.rt d) e := rfl
theorem forM'_cons (g : D → M Unit) (b : M Fl) (d : D) (ds : List D) (e : Env) : forM' g b (d :: ds) e = (g d e).bind fun _ => bindM b fun fl e => forR fl (forM' g b ds) e := by
  show bindM (g d) _ e = _
  unfold bindM Res.bind
  cases g d e with
  | ok u e1 =>
    simp only
    cases b e1 with
    | ok fl e2 => cases fl <;> rfl
    | exc x e2 => rfl
    | err => rfl
  | exc x e1 => rfl
  | err => rfl
@[simp ↓] theorem walkM_app (m : M D) (e : Env) : walkM m e = (m e).bind fun d => liftO (itemsD d) := rfl
@[simp ↓] theorem walkD_app (m : M D) (g : D → Option (List D)) (e : Env) : walkD m g e = (m e).bind fun d => liftO (g d) := rfl
@[simp ↓] theorem listM_app (m : M (List D)) (g : List D → Option (List D)) (e : Env) : listM m g e = (m e).bind fun d => liftO (g d) := rfl
@[simp ↓] theorem lstRgM_app (m n : M D) (e : Env) : lstRgM m n e = (m e).bind fun x => bindM n fun y => liftO ((rg2 x y).map OD.lst) := rfl
@[simp ↓] theorem lcM_app (mi : M (List D)) (g : D → M Unit) (t : M Bool) (el : M D) (vs : List Nat) (e : Env) : lcM mi g t el vs e = (mi e).bind (lcRun g t el vs) := rfl
theorem lcGo_cons (g : D → M Unit) (t : M Bool) (el : M D) (vs : List Nat) (d : D) (ds acc : List D) (e : Env) : lcGo g t el vs (d :: ds) acc e = (g d e).bind fun _ => bindM t fun c e => iteR c (bindM el fun y => bindM (small (acc ++ [y])) fun _ => fun e => lcGo g t el vs ds (acc ++ [y]) (wipeE e vs)) (fun e => lcGo g t el vs ds acc (wipeE e vs)) e := by
  show bindM (g d) _ e = _
  unfold bindM Res.bind
  cases g d e with
  | ok u e1 =>
    simp only
    cases t e1 with
    | ok c e2 => cases c <;> rfl
    | exc x e2 => rfl
    | err => rfl
  | exc x e1 => rfl
  | err => rfl
@[simp] theorem lcGo_nil (g : D → M Unit) (t : M Bool) (el : M D) (vs : List Nat) (acc : List D) (e : Env) : lcGo g t el vs [] acc e = .ok acc e := rfl
/-! calls -/
def clR (r : FRes) (e : Env) : Res D := match r with
  | .ret d row' => .ok d { e with row := row' }
  | .exc x row' => .exc x { e with row := row' }
  | .err => .err
@[simp] theorem clR_ret (d : D) (r : RowS) (e : Env) : clR (.ret d r) e = .ok d { e with row := r } := rfl
@[simp] theorem clR_exc (d : Exn) (r : RowS) (e : Env) : clR (.exc d r) e = .exc d { e with row := r } := rfl
@[simp ↓] theorem callM_app (f : FnM) (r : M (List D)) (e : Env) : callM f r e = (r e).bind fun ds e => clR (f ds e.row) e := by
  unfold callM bindM Res.bind
  cases r e with
  | ok d e1 =>
    show (match f d e1.row with | .ret d row' => Res.ok d { e1 with row := row' } | .exc x row' => Res.exc x { e1 with row := row' } | .err => Res.err) = clR (f d e1.row) e1
    cases f d e1.row <;> rfl
  | exc x e1 => rfl
  | err => rfl
def fnR (r : Res Fl) : FRes := match r with
  | .ok (.rt d) e => .ret d e.row
  | .ok .nx e => .ret .non e.row
  | .ok _ _ => .err
  | .exc x e => .exc x e.row
  | .err => .err
@[simp] theorem fnR_rt (d : D) (e : Env) : fnR (.ok (.rt d) e) = .ret d e.row := rfl
@[simp] theorem fnR_nx (e : Env) : fnR (.ok .nx e) = .ret .non e.row := rfl
@[simp] theorem fnR_exc (x : Exn) (e : Env) : fnR (.exc x e) = .exc x e.row := rfl
theorem fnM_app (k : Nat) (b : M Fl) (ds : List D) (row : RowS) : fnM k b ds row = fnR (b ⟨ds.map Slot.val ++ List.replicate k .no, row⟩) := by
  unfold fnM fnR
  cases b ⟨ds.map Slot.val ++ List.replicate k .no, row⟩ with
  | ok fl e => cases fl <;> rfl
  | exc x e => rfl
  | err => rfl
end
/-! isinstance -/
section
@[simp] theorem isi_int_int (i : Int) : isiF "int" (.int i) = some (.bl true) := by rfl
@[simp] theorem isi_int_bl (i : Bool) : isiF "int" (.bl i) = some (.bl true) := by rfl
@[simp] theorem isi_int_non : isiF "int" .non = some (.bl false) := by rfl
@[simp] theorem isi_int_str (i : Str) : isiF "int" (.str i) = some (.bl false) := by rfl
@[simp] theorem isi_int_tup (i : List D) : isiF "int" (.tup i) = some (.bl false) := by rfl
@[simp] theorem isi_int_lst (i : List D) : isiF "int" (.lst i) = some (.bl false) := by rfl
@[simp] theorem isi_int_dct (i : List (D × D)) : isiF "int" (.dct i) = some (.bl false) := by rfl
@[simp] theorem isi_int_obj (i : List D) : isiF "int" (.obj i) = some (.bl false) := by rfl
@[simp] theorem isi_bool_int (i : Int) : isiF "bool" (.int i) = some (.bl false) := by rfl
@[simp] theorem isi_bool_bl (i : Bool) : isiF "bool" (.bl i) = some (.bl true) := by rfl
@[simp] theorem isi_bool_non : isiF "bool" .non = some (.bl false) := by rfl
@[simp] theorem isi_tuple_int (i : Int) : isiF "tuple" (.int i) = some (.bl false) := by rfl
@[simp] theorem isi_tuple_bl (i : Bool) : isiF "tuple" (.bl i) = some (.bl false) := by rfl
@[simp] theorem isi_tuple_non : isiF "tuple" .non = some (.bl false) := by rfl
@[simp] theorem isi_tuple_str (i : Str) : isiF "tuple" (.str i) = some (.bl false) := by rfl
@[simp] theorem isi_tuple_tup (i : List D) : isiF "tuple" (.tup i) = some (.bl true) := by rfl
@[simp] theorem isi_tuple_lst (i : List D) : isiF "tuple" (.lst i) = some (.bl false) := by rfl
@[simp] theorem isi_tuple_dct (i : List (D × D)) : isiF "tuple" (.dct i) = some (.bl false) := by rfl
@[simp] theorem isi_tuple_obj (i : List D) : isiF "tuple" (.obj i) = some (.bl false) := by rfl
end
end Mi

set_option Elab.async false
set_option linter.all false
set_option maxRecDepth 100000
set_option maxHeartbeats 1000000
/-! Mirrors, part W: try with several clauses, each `as e`. -/
namespace Mi
open PySem PySem.Spec PyProof.Rows L2
/-- a clause of a try, told by its class, its name's slot and its suite's wish -/
abbrev Clause : Type := Value × Nat × (Addr → Value → Option Addr → TS)
inductive AsOk (X : Cx) : List ExceptHandler → List Clause → Prop
  | non : AsOk X [] []
  | more {x n : Str} {c : Value} {i : Nat} {ts : Addr → Value → Option Addr → TS} {st : Stmt} {sts : List Stmt} {p q : Pos} {hds : List ExceptHandler} {l : List Clause} (named : Names X x c) (at_ : X.N[i]? = some n) (own : X.env.kindOf n = some .local)
      (does : ∀ (ea : Addr) (ob : Obj) (cl : Value) (dt : Option Addr) (pl : List (Addr × Obj)), Zc cl dt ob → (∃ fs, ob.data = .fields fs) → PSs (X.suite ea ((ea, ob) :: pl)) (st :: sts) (ts ea cl dt)) (rest : AsOk X hds l) :
      AsOk X (.ExceptHandler (some (.Name x p)) (some n) (st :: sts) q :: hds) ((c, i, ts) :: l)
/-! the mirror's side -/
/-- a clause's wish, by its mirror -/
def clT (w : World) (K : PySem.W.Frag) (cs : List Str) (i : Nat) (m : M Fl) : Addr → Value → Option Addr → TS := fun a cl d D' σ H => ∃ c' ∈ cs, cl = .ref (He.ga K c') ∧ d = none ∧ σ[i]? = some (some (.ref a)) ∧ tS w K WN m D' σ H
def clL (w : World) (K : PySem.W.Frag) (cs : List Str) (hs : List (Str × Nat × M Fl)) : List Clause := hs.map fun h => (.ref (He.ga K h.1), h.2.1, clT w K cs h.2.1 h.2.2)
section
variable {X : Cx} {W : WX} {cs : List Str}
/-- clauses `except c as n: y = A if isinstance(n, CutError) else B`, with their mirrors -/
inductive HdM (X : Cx) (cs : List Str) : List ExceptHandler → List (Str × Nat × M Fl) → Prop
  | nil : HdM X cs [] []
  | cons {hds : List ExceptHandler} {hs : List (Str × Nat × M Fl)} {i j : Nat} {c y n : Str} {py np p p2 p3 p4 p5 pos1 pos' : Pos} {A B : Expr} {mA : M D} (hcc : c ∈ cs)
    (hA : ∀ (a : Addr) (oe : Obj) (pn : List (Addr × Obj)), PM (X.suite a ((a, oe) :: pn)) WN A mA) (hB : ∀ (a : Addr) (oe : Obj) (pn : List (Addr × Obj)), PM (X.suite a ((a, oe) :: pn)) WN B errM) (hm : X.mg "isinstance" = none) (r : HdM X cs hds hs) (hi : X.N[i]? = some n := by rfl) (hj : X.N[j]? = some y := by rfl) (hij : i ≠ j := by decide)
    (hln : X.env.kindOf n = some .local := by rfl) (hvi : Vis X.env.scope n := by first | exact Or.inl rfl | exact Or.inr (Or.inl rfl) | exact Or.inr (Or.inr rfl))
    (hdn : (n == ("__debug__" : Str)) = false := by decide) (hcn : (n == ("__classdict__" : Str)) = false := by decide) (hdc : (c == ("__debug__" : Str)) = false := by decide) (hgx : Gl X c := by rfl)
    (hyl : Loc X.env.scope y := by first | exact Or.inl rfl | exact Or.inr rfl) (hgi : Gl X "isinstance" := by rfl) (hgc : Gl X "CutError" := by rfl) (hse : starEach [.Name n p2, .Name "CutError" p3] X.env = (false, eval (.Name n p2) X.env) :: starEach [.Name "CutError" p3] X.env := by rfl)
    (hsw : swapsWith (.IfExp (.Call (.Name "isinstance" p) [.Name n p2, .Name "CutError" p3] [] p4) A B p5) (some (.Name y py)) pos1.line X.env = pure false := by rfl) (hfn : X.fn y = true ∨ X.env.scope.names.lookup y = some .local := by first | exact .inl rfl | exact .inr rfl | assumption) :
    HdM X cs (.ExceptHandler (some (.Name c np)) (some n) [.Assign [.Name y py] (.IfExp (.Call (.Name "isinstance" p) [.Name n p2, .Name "CutError" p3] [] p4) A B p5) pos1] pos' :: hds) ((c, i, asgM j mA) :: hs)
theorem HdM.mem {hds : List ExceptHandler} {hs : List (Str × Nat × M Fl)} (h : HdM X cs hds hs) : ∀ k ∈ hs, k.1 ∈ cs := by
  induction h with
  | nil => exact fun _ z => by cases z
  | cons hcc hA hB hm r hi hj hij hln hvi hdn hcn hdc hgx hyl hgi hgc hse hsw hfn ih =>
    intro k hk
    rcases List.mem_cons.mp hk with z | z
    · rw [z]
      exact hcc
    · exact ih k z
theorem HdM.ok {hds : List ExceptHandler} {hs : List (Str × Nat × M Fl)} (T : ExTab X.K X.mg cs) (hN : X.N.Nodup) (h : HdM X cs hds hs) : AsOk X hds (clL X.w X.K cs hs) := by
  induction h with
  | nil => exact .non
  | cons hcc hA hB hm r hi hj hij hln hvi hdn hcn hdc hgx hyl hgi hgc hse hsw hfn ih =>
    refine .more ⟨hgx, hdc, .inl (T.g _ hcc)⟩ hi hln (fun a oe cl d pn hz hfd => ⟨fun pins s σ H D' I h => ?_⟩) ih
    obtain ⟨c', hc', rfl, rfl, e1, h⟩ := h
    exact (suite_is T hc' hz hfd (hA a oe pn) (hB a oe pn) hm hN hi hj hvi hdn hcn hyl hgi hgc hse hsw hfn).run pins s σ H D' I ⟨e1, h⟩
end
end Mi

set_option Elab.async false
set_option linter.all false
set_option maxRecDepth 100000
set_option maxHeartbeats 4000000
/-! Mirrors, part X: dicts of one's own: {}, {k: v}, d[k] = v, d.get(k, x). -/
namespace Mi
open PySem PySem.Spec PyProof.Rows L2
/-! ### {} -/
/-! ### d[k] = v -/
section
variable {X : Cx} {pins : List (Addr × Obj)} {σ : L2.St} {H F : Hp} {s : Shared} {ra a : Addr} {es : List (NestedKey × V × V)} {kvs : List (D × D)} {dk : D} {k : NestedKey} {kv vv : V} {u r : Value} {A : Around} {E : Value → Shared → Prop} {Q : Unit → Shared → Prop}
end
/-! ### {k: v} -/
/-! ### d.get(k, x) -/
section
variable {X : Cx} {pins : List (Addr × Obj)} {σ : L2.St} {H F : Hp} {s : Shared} {ra a : Addr} {es : List (NestedKey × V × V)} {kvs : List (D × D)} {dk : D} {kv xv : V} {u r : Value} {A : Around} {E : Value → Shared → Prop} {Q : Value → Shared → Prop}
end
/-- what a container is called stays so, where the names stay -/
theorem TR.keep {w : World} {K : PySem.W.Frag} {ra : Addr} {HK : Kp} {σ : L2.St} {e e' : Env} {F F' H H' : Hp} {v : V} {r : Ref} (t : TR w K ra HK σ e F H v r) (s : Same F F') : TR w K ra HK σ e' F' H' v r := by
  cases r with
  | val d => exact Rep.mono s t
  | slot i => exact t
end Mi

set_option Elab.async false
set_option linter.all false
set_option maxRecDepth 100000
set_option maxHeartbeats 4000000
/-! Mirrors, part Y: xs[i] = v, xs[i] += n, d[k] += n; properties of a Rule. -/
namespace Mi
open PySem PySem.Spec PyProof.Rows L2
section
variable {X : Cx} {W : WX} {x : Str} {p pos pos2 : Pos}
end
/-! ### a list of one's own: xs * n -/
section
variable {X : Cx} {W : WX} {a b : Expr} {ma mb : M Ref} {pos : Pos}
end
/-! ### a, b = x, y where a name is read from inside (the pair itself is laid and not tracked) -/
section
variable {X : Cx} {W : WX} {r : M (List Slot)}
theorem TSl.length {w : World} {K : PySem.W.Frag} {ra : Addr} {F1 H1 : Hp} {σ : L2.St} : ∀ (is : List Nat) (vs : List V) (ss : List Slot) (HK : Kp) (e1 e2 : Env), TSl vs ss w K ra HK σ e1 F1 H1 → setAll is ss e1 = .ok () e2 → vs.length = is.length := by
      intro is
      induction is with
      | nil =>
        intro vs ss HK e1 e2 t q
        match vs, ss, t, q with
        | [], [], _, _ => rfl
        | _, _ :: _, _, q => cases q
        | _ :: _, [], t, _ => exact t.elim
      | cons i is ih =>
        intro vs ss HK e1 e2 t q
        match vs, ss, t, q with
        | [], [], _, q => cases q
        | [], _ :: _, t, _ => exact t.elim
        | _ :: _, [], t, _ => exact t.elim
        | v :: vs, .val d :: ss, t, q =>
          obtain ⟨e3, q1, _⟩ := setAll_cons q
          rw [List.length_cons, List.length_cons, ih vs ss HK e1 e3 t.2 q1]
        | v :: vs, .own o :: ss, t, q =>
          obtain ⟨e3, q1, _⟩ := setAll_cons q
          obtain ⟨a, u, _, _, _, _, t⟩ := t
          rw [List.length_cons, List.length_cons, ih vs ss _ e1 e3 t q1]
        | _ :: _, .no :: _, t, _ => exact t.elim
        | _ :: _, .pin :: _, t, _ => exact t.elim
        | v :: vs, .box l :: ss, t, q =>
          obtain ⟨e3, q1, _⟩ := setAll_cons q
          obtain ⟨rfl, rfl, _⟩ := t
          cases is with
          | nil => rfl
          | cons j is => cases q1
end
/-! ### max of the keys of a dict -/
section
variable {X : Cx} {W : WX} {a : Expr} {ma : M Ref} {pos : Pos}
end
end Mi

set_option Elab.async false
set_option linter.all false
set_option maxRecDepth 100000
set_option maxHeartbeats 4000000
/-! Mirrors, part Z: errors with fields: raised, caught, read. -/
namespace Mi
open PySem PySem.Spec PyProof.Rows L2
/-! ### what the snapshot says of such a class -/
def oexB (K : PySem.W.Frag) (C : Addr) : Bool := match K.lookup C with
  | some ⟨.type "type", _, .cls cd, sl⟩ => (match cd.mro, sl.toList with
    | .ref C' :: bm, [_, _, _, _, some (.builtin n), _] => C' == C && (n == "ValueError.__new__" && (!cd.hasDel && (cd.hasDict && PySem.HandSPX.refsVE bm)))
    | _, _ => false)
  | _ => false
theorem oexB_ok {K : PySem.W.Frag} {C : Addr} (h : oexB K C = true) : ∃ nm q N bs bm sn sub ab col dd k0 k1 k2 k3 k5, K.lookup C = some (excClassObj nm q C N bs bm true sn sub ab col dd k0 k1 k2 k3 k5 "ValueError.__new__") ∧ PySem.HandSPX.refsVE bm = true := by
  unfold oexB at h
  split at h
  · rename_i dd cd sl ho
    split at h
    · rename_i C' bm k0 k1 k2 k3 n k5 hm hs
      simp only [Bool.and_eq_true, beq_iff_eq, Bool.not_eq_true'] at h
      obtain ⟨rfl, rfl, hdel, hdct, hb⟩ := h
      obtain ⟨nm, bs, mro, ns, qn, hd, sn, sub, ab, col, del⟩ := cd
      dsimp only at hm hdel hdct
      subst hm hdel hdct
      have hsl : sl = #[k0, k1, k2, k3, some (.builtin "ValueError.__new__"), k5] := by
        obtain ⟨l⟩ := sl
        simp only at hs
        rw [hs]
      subst hsl
      exact ⟨nm, qn, ns, bs, bm, sn, sub, ab, col, dd, k0, k1, k2, k3, k5, ho, hb⟩
    · cases h
  · cases h
def xB (K : PySem.W.Frag) (x : Str) (fs : List Str) : Bool := oexB K (He.ga K x) && (decide (PySem.W.findIn K (.ref (He.ga K x)) "__setattr__" = some (some (.builtin "object.__setattr__"))) && (decide (PySem.W.subIn K (.ref (He.ga K x)) (.type "BaseException") = some true) &&
  (decide (PySem.W.typeIn K (.ref (He.ga K x)) = some (.type "type")) && (PySem.W.keepIn K (.ref (He.ga K x)) && (decide (PySem.W.findIn K (.ref (He.ga K x)) "__init__" = some (some (.ref (He.ma K (He.ga K x) "__init__")))) &&
  (decide (PySem.W.typeIn K (.ref (He.ma K (He.ga K x) "__init__")) = some (.type "function")) && fs.all fun f => decide (PySem.W.findIn K (.ref (He.ga K x)) f = some none)))))))
structure ExcI (K : PySem.W.Frag) (mg : Str → Option Value) (x : Str) (fs : List Str) : Prop where
  T : OexC K (He.ga K x)
  iC : PySem.W.findIn K (.ref (He.ga K x)) "__init__" = some (some (.ref (He.ma K (He.ga K x) "__init__")))
  tI : PySem.W.typeIn K (.ref (He.ma K (He.ga K x) "__init__")) = some (.type "function")
  nf : ∀ f ∈ fs, PySem.W.findIn K (.ref (He.ga K x)) f = some none
  g : mg x = some (.ref (He.ga K x))
theorem xB_ok {K : PySem.W.Frag} {mg : Str → Option Value} {x : Str} {fs : List Str} (h : xB K x fs = true) (g : mg x = some (.ref (He.ga K x))) : ExcI K mg x fs := by
  unfold xB at h
  simp only [Bool.and_eq_true, decide_eq_true_eq, List.all_eq_true] at h
  obtain ⟨h1, h2, h3, h4, h5, h6, h7, h8⟩ := h
  exact ⟨⟨oexB_ok h1, h2, h3, h4, h5⟩, h6, h7, h8, g⟩
/-! ### their __init__ -/
def spX (K : PySem.W.Frag) (C : Addr) (fs : List Str) : Sp := fun vs H Q _ => ∃ (a : Addr) (ws : List V), vs = .ref a :: ws ∧ ws.length = fs.length ∧ H a = some (exo a C none) ∧
  ∀ (dx : Addr) (H2 : Hp), H dx = none → dx ≠ a → H2 a = some (exo a C (some dx)) → H2 dx = some (exd dx (fs.zip ws).reverse) → (∀ b, b ≠ a → b ≠ dx → H2 b = H b) → Q .non H2
structure XInit (P : Program) (w : World) (K : PySem.W.Frag) (mg : Str → Option Value) (base : Heap) (x : Str) (fs : List Str) (k : Nat) : Prop where
  c : ExcI K mg x fs
  ex : ∃ fd ps, FnOk P w K mg base (L2.CX P w) k (He.ma K (He.ga K x) "__init__") fd ps (spX K (He.ga K x) fs) ∧ Binds K fd ps []
section
variable {P : Program} {w : World} {K : PySem.W.Frag} {mg : Str → Option Value} {base : Heap} {x qual self a1 a2 f1 f2 : Str} {params : Arguments} {scope : Scope} {fd : FuncData} {p1 p2 p3 p4 q1 q2 q3 q4 : Pos}
theorem xinit1 (c : ExcI K mg x [f1]) (FD : FunD K "__init__" qual params [.Assign [.Attribute (.Name self p1) f1 p2] (.Name a1 p3) p4] scope [] [] (He.ma K (He.ga K x) "__init__") fd) (S : FnScope [self, a1] [self, a1] scope) (hb : Binds K fd [self, a1] [])
    (hd0 : (self == ("__debug__" : Str)) = false := by decide) (hc0 : (self == ("__classdict__" : Str)) = false := by decide) (hd1 : (a1 == ("__debug__" : Str)) = false := by decide) (hc1 : (a1 == ("__classdict__" : Str)) = false := by decide)
    (hv0 : ∀ (cdv : Value) (A : Around) (outer : List PySem.Env) (s : Shared) (H : Hp) (E : XK), Vis (cxOf (L2.CX P w) P w K mg base [self, a1] qual scope (He.ma K (He.ga K x) "__init__") cdv A outer s H E).env.scope self) (hv1 : ∀ (cdv : Value) (A : Around) (outer : List PySem.Env) (s : Shared) (H : Hp) (E : XK), Vis (cxOf (L2.CX P w) P w K mg base [self, a1] qual scope (He.ma K (He.ga K x) "__init__") cdv A outer s H E).env.scope a1)
    (hs : ∀ (cdv : Value) (A : Around) (outer : List PySem.Env) (s : Shared) (H : Hp) (E : XK), swapsWith (.Name a1 p3) (some (.Attribute (.Name self p1) f1 p2)) p4.line (cxOf (L2.CX P w) P w K mg base [self, a1] qual scope (He.ma K (He.ga K x) "__init__") cdv A outer s H E).env = pure false) : XInit P w K mg base x [f1] 1 := by
  refine ⟨c, fd, _, FD.ok S (fun vs H Q E h => ?_) (fun cdv A outer s H vs Q E hr h => ⟨_, pss_one (ps_ost (pe_var (i := 0) rfl (hv0 cdv A outer s H E) hd0 hc0) (pe_var (i := 1) rfl (hv1 cdv A outer s H E) hd1 hc1) (hs cdv A outer s H E)), ?_⟩), hb⟩
  · obtain ⟨a, ws, rfl, hl, _⟩ := h
    simp at hl ⊢
    exact hl
  · obtain ⟨a, ws, rfl, hl, ha, q⟩ := h
    match ws, hl with
    | [y], _ =>
      refine ⟨y, rfl, .ref a, rfl, a, He.ga K x, rfl, c.T, c.nf f1 List.mem_cons_self, .inl ⟨ha, fun dx hdx hne => ?_⟩⟩
      exact q dx _ hdx hne upd_same (by rw [upd_ne hne, upd_same]; rfl) fun b h1 h2 => by rw [upd_ne h1, upd_ne h2]
end
/-! ### raise C(e, ..) -/
def raiseXM (c : Str) (fs : List Str) (r : M (List D)) : M Fl := bindM r fun ds e => .exc ⟨c, (fs.zip ds).reverse⟩ e
theorem zip_rev {α β : Type} : ∀ {l : List α} {m : List β}, l.length = m.length → (l.zip m).reverse = l.reverse.zip m.reverse
  | [], [], _ => rfl
  | [], _ :: _, h => by cases h
  | _ :: _, [], h => by cases h
  | x :: l, y :: m, h => by
    have h' : l.length = m.length := by simpa using h
    rw [List.zip_cons_cons, List.reverse_cons, List.reverse_cons, List.reverse_cons, zip_rev h', List.zip_append (by simpa using h')]
    rfl
theorem zip_fst {α β : Type} : ∀ {l : List α} {m : List β}, l.length = m.length → (l.zip m).map (·.1) = l
  | [], [], _ => rfl
  | [], _ :: _, h => by cases h
  | _ :: _, [], h => by cases h
  | x :: l, y :: m, h => by
    have h' : l.length = m.length := by simpa using h
    rw [List.zip_cons_cons, List.map_cons, zip_fst h']
theorem zip_snd {α β : Type} : ∀ {l : List α} {m : List β}, l.length = m.length → (l.zip m).map (·.2) = m
  | [], [], _ => rfl
  | [], _ :: _, h => by cases h
  | _ :: _, [], h => by cases h
  | x :: l, y :: m, h => by
    have h' : l.length = m.length := by simpa using h
    rw [List.zip_cons_cons, List.map_cons, zip_snd h']
theorem psm_raiseX {X : Cx} {W : WX} {x : Str} {fs : List Str} {k k' : Nat} {e : Expr} {es : List Expr} {p pos pos2 : Pos} {r : M (List D)} (F0 : XInit X.prog X.w X.K X.mg X.base x fs k) (hfs : fs ≠ []) (hr : Room k' X.A) (tk : Takes X W) (ha : PMA X W (e :: es) r) (hn : ∀ e ds e', r e = .ok ds e' → ds.length = fs.length) (hl : fs.length ≤ 10 := by decide) (hk : k + 1 ≤ k' := by decide) (hc : X.calm = true := by rfl) (hg : Gl X x := by rfl)
    (hdb : (x == ("__debug__" : Str)) = false := by decide) (he : starEach (e :: es) X.env = (false, eval e X.env) :: starEach es X.env := by rfl) (hpl : (backTo pos (starEach es X.env)).any (·.1) = false := by rfl) : PSM X W (.Raise (some (.Call (.Name x p) (e :: es) [] pos)) none pos2) (raiseXM x fs r) := by
  obtain ⟨fd, ps, F1, hb⟩ := F0.ex
  refine PS.weaken (ps_raise hc tk (pmk_oex F0.c.T F0.c.iC F0.c.tI F1 (hr.mono hk) hb .nil passL hg F0.c.g ha hdb he hpl)) ?_
  rintro D' σ H ⟨ra, HK, F, e0, R, h⟩
  unfold raiseXM at h
  have h0 := wp_bind.mp h
  refine ⟨ra, HK, F, e0, R, ?_⟩
  cases er : r e0 with
  | err =>
    rw [er] at h0
    exact h0
  | exc y e1 =>
    rw [er] at h0
    exact h0
  | ok ds e1 =>
    rw [er] at h0
    intro vs F1 H1 s1 R1 r1
    have lds := hn _ _ _ er
    have lvs : vs.length = ds.length := RepA.length r1
    have l1 : fs.length = vs.length := by omega
    refine ⟨by omega, fun a ha' => ⟨a, vs, by simp, by omega, upd_same, fun dx H2 hdx hne e1' e2 hoth => ⟨rfl, dx, _, e1', e2, ?_, ?_⟩⟩⟩
    · rw [upd_ne hne] at hdx
      exact hdx
    · have hdx' : H1 dx = none := by
        rw [upd_ne hne] at hdx
        exact hdx
      have eH : upd (del H2 a) dx (.xd (fs.zip vs).reverse) = upd H1 dx (.xd (fs.zip vs).reverse) := by
        funext b
        by_cases hb1 : b = dx
        · rw [hb1, upd_same, upd_same]
        · rw [upd_ne hb1, upd_ne hb1]
          by_cases hb2 : b = a
          · rw [hb2, del_same, ha']
          · rw [del_ne hb2, hoth b hb2 hb1, upd_ne hb2]
      rw [eH]
      have h1 : exW X.w X.K ra HK F W ⟨x, (fs.zip ds).reverse⟩ e1 := h0
      refine h1 _ (some dx) σ F1 _ s1 (R1.grow hdx' _) ⟨rfl, .inr ⟨fun z => ?_, dx, vs.reverse, rfl, ?_, ?_, R1.fh.free hdx', fun z => R1.ra_some (by rw [← z]; exact hdx')⟩⟩
      · have := congrArg List.length z
        simp at this
        rcases this with z | z
        · exact hfs z
        · have : fs.length = 0 := by rw [← lds, z]; rfl
          exact hfs (List.length_eq_zero_iff.mp this)
      · rw [upd_same]
        have e3 : ((fs.zip ds).reverse.map (·.1)) = fs.reverse := by rw [List.map_reverse, zip_fst (by omega)]
        show some (HO.xd _) = some (HO.xd (((fs.zip ds).reverse.map (·.1)).zip vs.reverse))
        rw [e3, zip_rev l1]
      · show RepA X.w X.K ra F1 vs.reverse ((fs.zip ds).reverse.map (·.2))
        rw [List.map_reverse, zip_snd (by omega)]
        exact RepA.reverse r1
/-! ### isinstance of a caught error -/
def rIsX (K : PySem.W.Frag) (D a : Addr) (d : Option Addr) : List V → Hp → VK → Prop := fun xs H Q => ∃ (c : V) (cv : Value) (b : Bool), xs = [.ref a, c] ∧ (∀ u, RelV c u → u = cv) ∧ PySem.W.kitOne K (.ref D) cv = some b ∧ (d = none ∨ ∃ dd fs, d = some dd ∧ H dd = some (.xd fs)) ∧ Q (.bl b) H
theorem call_isX {X : Cx} {a D : Addr} {d : Option Addr} {oe : Obj} {pn : List (Addr × Obj)} (C : ExcC X.K D) (hz : Zc (.ref D) d oe) (hf : ∃ vs, oe.data = .fields vs) : CallR (X.suite a ((a, oe) :: pn)) (.builtin "isinstance") (rIsX X.K D a d) := by
  intro pins s σ H xs us Q I r h
  obtain ⟨c, cv, b, rfl, hcv, e, hd, q⟩ := h
  cases r with
  | cons rx rr =>
    cases rr with
    | cons rt rr =>
      cases rr
      cases rx
      have ec := hcv _ rt
      subst ec
      obtain ⟨hget, _⟩ := I.pin (a, oe) (List.mem_append.mpr (.inl List.mem_cons_self))
      obtain ⟨vs, hv⟩ := hf
      have nc : PySem.W.notCls oe := by
        unfold PySem.W.notCls
        rw [hv] <;> rfl
      have hcl : (PySem.W.clsIn X.K D).isSome = true := by
        obtain ⟨cd, hc, _⟩ := PySem.W.any_some C.hd
        rw [hc]
        rfl
      have J : ∃ od, PySem.W.InstAt s.heap a oe D od := by
        rcases hd with rfl | ⟨dd, fs, rfl, hH⟩
        · exact ⟨none, hget, hz.1, nc, by rw [hz.2]; trivial⟩
        · have hx : ObjOk X.prog X.w H s.heap dd (.xd fs) := I.hok dd _ hH
          obtain ⟨mA, hns, _⟩ := hx
          obtain ⟨od, ho, _⟩ := lookIn_ns hns
          exact ⟨some od, hget, hz.1, nc, by rw [hz.2]; exact ho⟩
      obtain ⟨od, J⟩ := J
      exact PySem.W.kia_one (PySem.W.kitx_exc hcl C.hg C.hk C.hs C.ha C.hn C.ht C.hm) I.kIn J e (fun z => nomatch z) fun tk => ⟨.bl b, H, I.kept (t' := tk) fun _ _ z => z, rfl, q⟩
/-! ### what a suite makes of the error -/
/-- an expression in a suite for errors of the class c, n (slot i) being the error -/
structure HdV (X : Cx) (i : Nat) (c : Str) (A : Expr) (mA : Exn → M D) : Prop where
  run : ∀ (x : Exn) (a : Addr) (oe : Obj) (d : Option Addr) (pn : List (Addr × Obj)), x.cls = c → Zc (.ref (He.ga X.K c)) d oe → (∃ vs, oe.data = .fields vs) → ∃ te, PE (X.suite a ((a, oe) :: pn)) A te ∧
    ∀ (ra : Addr) (HK : Kp) (F : Hp) (e : Env) (σ : L2.St) (H : Hp) (Q : VK), Rel X.w X.K ra HK F e σ H → σ[i]? = some (some (.ref a)) → ExIs X.w X.K ra F H x (.ref (He.ga X.K c)) d → ((mA x) e).wp (okG TV X.w X.K ra HK F σ Q) (exW X.w X.K ra HK F WN) → te σ H Q
def XfC.of {K : PySem.W.Frag} {C : Addr} (h : ExcC K C) : XfC K C := ⟨h.hg, h.hk, h.hs, h.hd⟩
section
variable {X : Cx} {i : Nat} {c n f1 f2 : Str} {p1 p2 p3 p4 pos : Pos} {z : Str} {j0 : Nat}
end
/-! ### try with clauses for errors with fields -/
def clX (w : World) (K : PySem.W.Frag) (c : Str) (i : Nat) (m : Exn → M Fl) : Addr → Value → Option Addr → TS := fun a cl d D' σ H => ∃ x : Exn, x.cls = c ∧ cl = .ref (He.ga K c) ∧ σ[i]? = some (some (.ref a)) ∧ ∃ ra HK F e, Rel w K ra HK F e σ H ∧ ExIs w K ra F H x cl d ∧ ((m x) e).wp (okS w K ra HK F D') (exW w K ra HK F WN)
def clLX (w : World) (K : PySem.W.Frag) (hs : List (Str × Nat × (Exn → M Fl))) : List Clause := hs.map fun h => (.ref (He.ga K h.1), h.2.1, clX w K h.1 h.2.1 h.2.2)
/-- y = A if isinstance(n, CutError) else B, in the suite of such an error -/
theorem suite_isX {X : Cx} {cs : List Str} {i j : Nat} {a : Addr} {oe : Obj} {c : Str} {d : Option Addr} {pn : List (Addr × Obj)} {y n : Str} {py p p2 p3 p4 p5 pos : Pos} {A B : Expr} {mA : Exn → M D} (T : ExTab X.K X.mg cs) (hcs : c ∈ cs) (hz : Zc (.ref (He.ga X.K c)) d oe) (hf : ∃ vs, oe.data = .fields vs)
    (x : Exn) (hx : x.cls = c) (hA : HdV X i c A mA) (hB : PM (X.suite a ((a, oe) :: pn)) WN B errM) (hm : X.mg "isinstance" = none) (hN : X.N.Nodup) (hi : X.N[i]? = some n) (hj : X.N[j]? = some y) (hvi : Vis X.env.scope n)
    (hdn : (n == ("__debug__" : Str)) = false) (hcn : (n == ("__classdict__" : Str)) = false)
    (hyl : Loc X.env.scope y) (hgi : Gl X "isinstance") (hgc : Gl X "CutError") (hse : starEach [.Name n p2, .Name "CutError" p3] X.env = (false, eval (.Name n p2) X.env) :: starEach [.Name "CutError" p3] X.env)
    (hsw : swapsWith (.IfExp (.Call (.Name "isinstance" p) [.Name n p2, .Name "CutError" p3] [] p4) A B p5) (some (.Name y py)) pos.line X.env = pure false) (hfn : X.fn y = true ∨ X.env.scope.names.lookup y = some .local) :
    PSs (X.suite a ((a, oe) :: pn)) [.Assign [.Name y py] (.IfExp (.Call (.Name "isinstance" p) [.Name n p2, .Name "CutError" p3] [] p4) A B p5) pos] (fun D' σ H => σ[i]? = some (some (.ref a)) ∧ ∃ ra HK F e, Rel X.w X.K ra HK F e σ H ∧ ExIs X.w X.K ra F H x (.ref (He.ga X.K c)) d ∧ ((asgM j (mA x)) e).wp (okS X.w X.K ra HK F D') (exW X.w X.K ra HK F WN)) := by
  obtain ⟨te, hte, hread⟩ := hA.run x a oe d pn hx hz hf
  have pc : PE (X.suite a ((a, oe) :: pn)) (.Call (.Name "isinstance" p) [.Name n p2, .Name "CutError" p3] [] p4) _ := pe_callB (call_isX (T.i c hcs) hz hf) hgi hm (by decide +kernel) (pa_cons (pe_var (i := i) hi hvi hdn hcn) (pa_cons (pe_glob (v := .ref (He.ga X.K "CutError")) hgc (T.g _ T.cut) rfl (by decide)) pa_nil rfl) hse) (by decide) (by decide) hse rfl
  have ps := pss_one (ps_set (X := X.suite a ((a, oe) :: pn)) (pos := pos) (pos' := py) hN hj hyl (pe_ifExp (X := X.suite a ((a, oe) :: pn)) (pos := p5) (pt_val pc) hte hB) hsw hfn)
  refine PSs.weaken ps ?_
  rintro D' σ H ⟨e1, ra, HK, F, e, R, hex, h⟩
  refine ⟨.ref a, e1, ?_⟩
  refine ⟨.ref (He.ga X.K "CutError"), .ref (He.ga X.K "CutError"), true, rfl, fun u r => r, T.k c hcs, ?_, ?_⟩
  · obtain ⟨_, hfs⟩ := hex
    rcases hfs with ⟨_, hd⟩ | ⟨_, dd, vs, hd, hH, _⟩
    · exact .inl hd
    · exact .inr ⟨dd, _, hd, hH⟩
  · refine ⟨true, rfl, iteT ?_⟩
    unfold asgM at h
    have h1 := wp_bind.mp h
    refine hread ra HK F e σ H _ R e1 hex ?_
    refine wp_mono h1 (fun dv e' q v F' H' s R' r => ?_) fun _ _ q => q
    obtain ⟨h2, q2⟩ := wp_setM q
    exact q2 _ F' H' s (R'.setVal h2 r)
section
variable {X : Cx} {W : WX} {cs : List Str}
inductive HdX (X : Cx) (cs : List Str) : List ExceptHandler → List (Str × Nat × (Exn → M Fl)) → Prop
  | nil : HdX X cs [] []
  | cons {hds : List ExceptHandler} {hs : List (Str × Nat × (Exn → M Fl))} {i j : Nat} {c y n : Str} {py np p p2 p3 p4 p5 pos1 pos' : Pos} {A B : Expr} {mA : Exn → M D} (hcc : c ∈ cs)
    (hA : HdV X i c A mA) (hB : ∀ (a : Addr) (oe : Obj) (pn : List (Addr × Obj)), PM (X.suite a ((a, oe) :: pn)) WN B errM) (hm : X.mg "isinstance" = none) (r : HdX X cs hds hs) (hi : X.N[i]? = some n := by rfl) (hj : X.N[j]? = some y := by rfl) (hij : i ≠ j := by decide)
    (hln : X.env.kindOf n = some .local := by rfl) (hvi : Vis X.env.scope n := by first | exact Or.inl rfl | exact Or.inr (Or.inl rfl) | exact Or.inr (Or.inr rfl))
    (hdn : (n == ("__debug__" : Str)) = false := by decide) (hcn : (n == ("__classdict__" : Str)) = false := by decide) (hdc : (c == ("__debug__" : Str)) = false := by decide) (hgx : Gl X c := by rfl)
    (hyl : Loc X.env.scope y := by first | exact Or.inl rfl | exact Or.inr rfl) (hgi : Gl X "isinstance" := by rfl) (hgc : Gl X "CutError" := by rfl) (hse : starEach [.Name n p2, .Name "CutError" p3] X.env = (false, eval (.Name n p2) X.env) :: starEach [.Name "CutError" p3] X.env := by rfl)
    (hsw : swapsWith (.IfExp (.Call (.Name "isinstance" p) [.Name n p2, .Name "CutError" p3] [] p4) A B p5) (some (.Name y py)) pos1.line X.env = pure false := by rfl) (hfn : X.fn y = true ∨ X.env.scope.names.lookup y = some .local := by first | exact .inl rfl | exact .inr rfl | assumption) :
    HdX X cs (.ExceptHandler (some (.Name c np)) (some n) [.Assign [.Name y py] (.IfExp (.Call (.Name "isinstance" p) [.Name n p2, .Name "CutError" p3] [] p4) A B p5) pos1] pos' :: hds) ((c, i, fun x => asgM j (mA x)) :: hs)
theorem HdX.mem {hds : List ExceptHandler} {hs : List (Str × Nat × (Exn → M Fl))} (h : HdX X cs hds hs) : ∀ k ∈ hs, k.1 ∈ cs := by
  induction h with
  | nil => exact fun _ z => by cases z
  | cons hcc hA hB hm r hi hj hij hln hvi hdn hcn hdc hgx hyl hgi hgc hse hsw hfn ih =>
    intro k hk
    rcases List.mem_cons.mp hk with z | z
    · rw [z]
      exact hcc
    · exact ih k z
theorem HdX.ok {hds : List ExceptHandler} {hs : List (Str × Nat × (Exn → M Fl))} (T : ExTab X.K X.mg cs) (hN : X.N.Nodup) (h : HdX X cs hds hs) : AsOk X hds (clLX X.w X.K hs) := by
  induction h with
  | nil => exact .non
  | cons hcc hA hB hm r hi hj hij hln hvi hdn hcn hdc hgx hyl hgi hgc hse hsw hfn ih =>
    refine .more ⟨hgx, hdc, .inl (T.g _ hcc)⟩ hi hln (fun a oe cl d pn hz hfd => ⟨fun pins s σ H D' I h => ?_⟩) ih
    obtain ⟨x, hx, rfl, e1, h⟩ := h
    exact (suite_isX T hcc hz hfd x hx hA (hB a oe pn) hm hN hi hj hvi hdn hcn hyl hgi hgc hse hsw hfn).run pins s σ H D' I ⟨e1, h⟩
end
end Mi

set_option Elab.async false
set_option linter.all false
set_option maxRecDepth 100000
set_option maxHeartbeats 4000000
/-! Mirrors, part M: sorted(xs), xs a list of words of one length. -/
namespace Mi
open PySem PySem.Spec PyProof.Rows L2
def wI (w : List Int) : D := .tup (w.map D.int)
section
variable {w : World} {K : PySem.W.Frag} {ra : Addr} {F H : Hp}
theorem RepA.words : ∀ {vs : List V} {ws : List (List Int)}, RepA w K ra F vs (ws.map wI) → ∀ x ∈ vs, ∃ ns ∈ ws, TupI K F x ns
  | [], _, _, x, hx => by cases hx
  | v :: vs, [], h, _, _ => by cases h
  | v :: vs, u :: ws, h, x, hx => by
    cases h with
    | cons h1 h2 =>
      rcases List.mem_cons.mp hx with rfl | hx
      · refine ⟨u, List.mem_cons_self, ?_⟩
        cases h1 with
        | @tup a us ds hq hr =>
          rw [RepA.ints hr] at hq
          exact ⟨a, rfl, hq⟩
      · obtain ⟨ns, m, t⟩ := RepA.words h2 x hx
        exact ⟨ns, List.mem_cons_of_mem _ m, t⟩
end
theorem RepA.pair {K : PySem.W.Frag} {w : World} {ra : Addr} {F H : Hp} (fh : Same F H) {ys : List V} {us : List (List Int)} (r : RepA w K ra F ys (us.map wI)) (p : ys.Pairwise (fun x y => ∀ n m, TupI K H x n → TupI K H y m → TS.code 1000 n ≤ TS.code 1000 m)) : us.Pairwise fun a b => TS.code 1000 a ≤ TS.code 1000 b := by
  induction ys generalizing us with
  | nil =>
    cases us with
    | nil => exact .nil
    | cons u us => cases r
  | cons y ys ih =>
    cases us with
    | nil => cases r
    | cons u us =>
      cases r with
      | cons h1 h2 =>
        rw [List.pairwise_cons] at p ⊢
        have t1 : TupI K H y u := by
          cases h1 with
          | @tup a us' ds hq hr =>
            rw [RepA.ints hr] at hq
            exact ⟨a, rfl, Same.seqT fh hq⟩
        refine ⟨fun b hb => ?_, ih h2 p.2⟩
        have key : ∀ (vs : List V) (bs : List (List Int)), RepA w K ra F vs (bs.map wI) → ∀ b ∈ bs, ∃ v ∈ vs, TupI K H v b := by
          intro vs bs
          induction bs generalizing vs with
          | nil => exact fun _ b hb => nomatch hb
          | cons c bs ih2 =>
            intro r b hb
            cases r with
            | cons g1 g2 =>
              rcases List.mem_cons.mp hb with rfl | hb
              · cases g1 with
                | @tup a us' ds hq hr =>
                  rw [RepA.ints hr] at hq
                  exact ⟨_, List.mem_cons_self, a, rfl, Same.seqT fh hq⟩
              · obtain ⟨v, hv, t⟩ := ih2 _ g2 b hb
                exact ⟨v, List.mem_cons_of_mem _ hv, t⟩
        obtain ⟨v, hv, t2⟩ := key _ _ h2 b hb
        exact p.1 v hv u b t1 t2
section
variable {X : Cx} {W : WX} {a : Expr} {ma : M Ref} {pos : Pos}
end
end Mi

set_option Elab.async false
set_option linter.all false
set_option maxRecDepth 100000
set_option maxHeartbeats 4000000
/-! Mirrors, part M2: [y for a in xs for b in ys]. -/
namespace Mi
open PySem PySem.Spec PyProof.Rows L2
section
variable {X : Cx} {W : WX} {elt tg iter tg1 iter1 : Expr} {scope : Scope} {pos : Pos} {mi mi1 : M (List D)} {g g1 : D → M Unit} {el : M D} {is is1 : List Nat}
end
end Mi

set_option Elab.async false
set_option linter.all false
set_option maxRecDepth 100000
set_option maxHeartbeats 4000000
/-! Mirrors, part M3: isinstance(x, (T, U)); sorted(set(t)), t a tuple of numbers. -/
namespace Mi
open PySem PySem.Spec PyProof.Rows L2
section
variable {X : Cx} {W : WX} {a : Expr} {ma : M Ref} {pos : Pos}
end
/-! ### sorted(set(t)) -/
section
variable {X : Cx}
end
section
variable {X : Cx} {W : WX} {a : Expr} {ma : M Ref} {pos : Pos}
end
end Mi

set_option Elab.async false
set_option linter.all false
set_option maxRecDepth 100000
set_option maxHeartbeats 4000000
/-! Mirrors, part M4: dict comprehensions, the keys nested or numbers. -/
namespace Mi
open PySem PySem.Spec PyProof.Rows L2
section
variable {X : Cx}
end
/-! ### the mirror -/
section
variable {X : Cx} {W : WX} {kx vx tg iter : Expr} {ifs : List Expr} {scope : Scope} {pos : Pos} {mi : M (List D)} {g : D → M Unit} {t : M Bool} {mk mv : M D} {is : List Nat}
end
end Mi

set_option Elab.async false
set_option linter.all false
set_option maxRecDepth 100000
set_option maxHeartbeats 4000000
/-! Mirrors, part M5: dicts of one's own lists: d[k] = [], d[k].append(x), k in d; d[k] -= n. -/
namespace Mi
open PySem PySem.Spec PyProof.Rows L2
section
variable {w : World} {K : PySem.W.Frag} {ra : Addr} {HK : Kp} {F F' H H' : Hp} {e : Env} {σ : L2.St}
theorem RepB.ref {es : List (NestedKey × V × V)} {l : List (D × List D)} (r : RepB w K ra F H es l) : ∀ x ∈ es, ∃ b vs, x.2.2 = .ref b ∧ H b = some (.lst vs) := by
  induction r with
  | nil => exact fun x h => nomatch h
  | cons hk r hb ra' _ ih =>
    intro x h
    rcases List.mem_cons.mp h with rfl | h
    · exact ⟨_, _, rfl, hb⟩
    · exact ih x h
theorem RepB.snoc {es : List (NestedKey × V × V)} {l : List (D × List D)} {dk : D} {ds : List D} {k : NestedKey} {kv : V} {b : Addr} {vs : List V} (r : RepB w K ra F H es l) (h : dk.hk = some k) (h1 : Rep w K ra F kv dk) (h2 : H b = some (.lst vs)) (h3 : RepA w K ra F vs ds) : RepB w K ra F H (es ++ [(k, kv, .ref b)]) (l ++ [(dk, ds)]) := by
  induction r with
  | nil => exact .cons h h1 h2 h3 .nil
  | cons a b c d _ ih => exact .cons a b c d ih
end
/-! ### d[k] = [] -/
/-! ### d[k] of a dict of lists, the very list -/
section
variable {X : Cx}
end
/-! ### d[k].append(x) -/
/-! ### k in d -/
section
variable {X : Cx} {W : WX} {a : Expr} {ma : M Ref} {pos p : Pos} {x : Str}
end
/-! ### d[k] += n, d[k] -= n -/
section
variable {X : Cx} {W : WX}
end
end Mi

set_option Elab.async false
set_option linter.all false
set_option maxRecDepth 100000
set_option maxHeartbeats 4000000
/-! Mirrors, part M6: {k: [] for ..}. -/
namespace Mi
open PySem PySem.Spec PyProof.Rows L2
section
variable {w : World} {K : PySem.W.Frag} {ra : Addr} {HK HK' : Kp} {P P' F F' H H' : Hp} {e e' : Env} {σ : L2.St}
theorem SlotOk.kp {ov : Option (Option V)} {s : Slot} (h : SlotOk w K ra HK F H ov s) (k : ∀ a, s.isC = true → ov = some (some (.ref a)) → ∀ p, Foot H s a p → HK'.h p = none) (hm : HK'.me = HK.me) : SlotOk w K ra HK' F H ov s := by
  cases s with
  | no => trivial
  | pin =>
    show ov = some (some HK'.me)
    rw [hm]
    exact h
  | val d => exact h
  | dsk l o' r' =>
    obtain ⟨a, e1, r, fa, ka, na, me⟩ := h
    exact ⟨a, e1, r, fa, k a rfl e1 a (.inl rfl), na, fun z => by rw [hm]; exact me z⟩
  | own o =>
    obtain ⟨a, e1, r, fa, ka, na⟩ := h
    exact ⟨a, e1, r, fa, k a rfl e1 a (.inl rfl), na⟩
  | box l =>
    obtain ⟨a, e1, es, at_, rb, nd, f⟩ := h
    refine ⟨a, e1, es, at_, rb, nd, fun p hp => ?_⟩
    obtain ⟨f1, f2, f3, f4⟩ := f p hp
    exact ⟨f1, k a rfl e1 p (hp.imp id fun z => ⟨rfl, z⟩), f3, f4⟩
end
section
variable {X : Cx} {W : WX} {kx tg iter : Expr} {scope : Scope} {pos lpos : Pos} {mi : M (List D)} {g : D → M Unit} {mk : M D} {is : List Nat}
end
end Mi

set_option Elab.async false
set_option linter.all false
set_option maxRecDepth 100000
set_option maxHeartbeats 4000000
/-! Mirrors, part M7: min(xs) of words; d == {} and d != {}. -/
namespace Mi
open PySem PySem.Spec PyProof.Rows L2
open PySem.W (dataLt minD alike alikeAll min_list_data reads_keeps keyToks)
open PySem.SeqAt (readOf_eq)
/-! ### a dict against an empty one -/
section
variable {prog : Program} {w : World} {A : Around} {E : Value → Shared → Prop} {s : Shared}
end
section
variable {X : Cx} {W : WX} {a b : Expr} {ma mb : M Ref} {pos : Pos}
end
/-! ### min(xs) of words -/
section
variable {X : Cx} {W : WX} {a b : Expr} {ma mb : M Ref} {pos : Pos}
end
end Mi

set_option Elab.async false
set_option linter.all false
set_option maxRecDepth 100000
set_option maxHeartbeats 4000000
/-! Mirrors, part M8: list(d). -/
namespace Mi
open PySem PySem.Spec PyProof.Rows L2
section
variable {X : Cx} {W : WX} {a : Expr} {ma : M Ref} {pos : Pos}
end
end Mi

set_option Elab.async false
set_option linter.all false
set_option maxRecDepth 100000
set_option maxHeartbeats 4000000
/-! Mirrors, part M9: t[::-1] of a tuple. -/
namespace HT
open PySem PySem.Spec PyProof.Rows
section
variable {prog : Program} {w : World} {A : Around} {E : Value → Shared → Prop} {s : Shared}
end
end HT
namespace Mi
open PySem PySem.Spec PyProof.Rows L2
section
variable {X : Cx} {W : WX} {e stp : Expr} {te : TE} {ts : L2.TO} {pos p2 : Pos} {ma : M Ref} {ms : M (Option Int)}
theorem RepA.snoc {w : World} {K : PySem.W.Frag} {ra : Addr} {F : Hp} : ∀ {vs : List V} {ds : List D} {v : V} {d : D}, RepA w K ra F vs ds → Rep w K ra F v d → RepA w K ra F (vs ++ [v]) (ds ++ [d])
  | _, _, _, _, .nil, h => .cons h .nil
  | _, _, _, _, .cons h1 r, h => .cons h1 (RepA.snoc r h)
/-! a op b op' c, as a test -/
end
end Mi

set_option Elab.async false
set_option linter.all false
set_option maxRecDepth 100000
set_option maxHeartbeats 4000000
/-! Mirrors, part M10: list(d.values()). -/
namespace Mi
open PySem PySem.Spec PyProof.Rows L2
section
variable {X : Cx} {W : WX} {a l : Expr} {te : TE} {ma : M Ref} {m : M D} {pos apos cpos : Pos}
end
end Mi

set_option Elab.async false
set_option linter.all false
set_option maxRecDepth 100000
set_option maxHeartbeats 4000000
/-! Mirrors, part M11: tuple(range(a, b)). -/
namespace Mi
open PySem PySem.Spec PyProof.Rows L2
def tupRgM (ma mb : M D) : M D := bindM ma fun x => bindM mb fun y => liftO ((rg2 x y).map D.tup)
section
variable {X : Cx} {W : WX} {a b : Expr} {pos : Pos}
end
@[simp ↓] theorem tupRgM_app (m n : M D) (e : Env) : tupRgM m n e = (m e).bind fun x => bindM n fun y => liftO ((rg2 x y).map D.tup) := rfl
end Mi

set_option Elab.async false
set_option linter.all false
set_option maxRecDepth 100000
set_option maxHeartbeats 4000000
/-! Mirrors, part M12: sorted(xs) of any alike data, sorted(d). -/
namespace Mi
open PySem PySem.Spec PyProof.Rows L2
open PySem.W (EachIs alike)
/-- the order of alike data -/
noncomputable def dLe (a b : D) : Bool := PySem.W.dataLe false D.pd a b
theorem RepA.zipped {w : World} {K : PySem.W.Frag} {ra : Addr} {F : Hp} : ∀ {vs : List V} {ds : List D}, RepA w K ra F vs ds → ∀ p ∈ vs.zip ds, Rep w K ra F p.1 p.2
  | _, _, .nil, p, h => by simp at h
  | _, _, .cons a r, p, h => by
    rw [List.zip_cons_cons] at h
    rcases List.mem_cons.mp h with rfl | h
    · exact a
    · exact r.zipped p h
theorem RepA.ofZip {w : World} {K : PySem.W.Frag} {ra : Addr} {F : Hp} : ∀ (l : List (V × D)), (∀ p ∈ l, Rep w K ra F p.1 p.2) → RepA w K ra F (l.map (·.1)) (l.map (·.2))
  | [], _ => .nil
  | p :: l, h => .cons (h p List.mem_cons_self) (RepA.ofZip l fun q hq => h q (List.mem_cons_of_mem _ hq))
theorem RepA.sorted {w : World} {K : PySem.W.Frag} {ra : Addr} {F : Hp} {vs : List V} {ds : List D} (h : RepA w K ra F vs ds) : RepA w K ra F (((vs.zip ds).mergeSort (fun x y => dLe x.2 y.2)).map (·.1)) (ds.mergeSort dLe) := by
  have e : ((vs.zip ds).mergeSort (fun x y => dLe x.2 y.2)).map (·.2) = ds.mergeSort dLe := by
    rw [List.map_mergeSort (r := fun x y : V × D => dLe x.2 y.2) (s := dLe) (f := fun x : V × D => x.2) (fun _ _ _ _ => rfl)]
    congr 1
    exact List.map_snd_zip (by rw [RepA.length h]; exact Nat.le_refl _)
  rw [← e]
  exact RepA.ofZip _ fun p hp => h.zipped p ((List.mergeSort_perm _ _).mem_iff.mp hp)
section
variable {X : Cx} {W : WX} {a : Expr} {ma : M Ref} {pos : Pos}
end
end Mi

set_option Elab.async false
set_option linter.all false
set_option maxRecDepth 100000
set_option maxHeartbeats 4000000
/-! Mirrors, part M13: properties. -/
namespace Mi
open PySem PySem.Spec PyProof.Rows L2
/-! ### the snapshot: a property's getter -/
def prA (K : PySem.W.Frag) (p : Str × Str) : Addr := He.ma K (He.ga K p.1) p.2
def gtA (K : PySem.W.Frag) (p : Str × Str) : Addr := match PySem.W.recIn K (prA K p) "property" with
  | some (.ref g :: _) => g
  | _ => 0
def gtW (K : PySem.W.Frag) (p : Str × Str) : He.FnW := match K.lookup (gtA K p) with
  | some ⟨_, _, .func fd, _⟩ => some (fd.name, fd.qualname, fd.params, fd.body, fd.scope, fd.globals, fd.closure, fd.builtins)
  | _ => none
structure GtD where
  at_ : Str × Str
  name : Str
  qual : Str
  params : Arguments
  body : List Stmt
  scope : Scope
def GtD.val (d : GtD) : He.FnW := some (d.name, d.qual, d.params, .stmts d.body, d.scope, mainGlobals, [], builtinsNs)
def propB (K : PySem.W.Frag) (p : Str × Str) : Bool := decide (PySem.W.findIn K (.ref (He.ga K p.1)) p.2 = some (some (.ref (prA K p)))) && (decide (PySem.W.specialIn K (.ref (prA K p)) "__get__" = some (some (.builtin "property.__get__"))) &&
  (decide (PySem.W.takesIn K (.ref (prA K p)) = some true) && (match PySem.W.recIn K (prA K p) "property" with
    | some (.ref _ :: _) => true
    | _ => false)))
theorem propB_ok {K : PySem.W.Frag} {p : Str × Str} (h : propB K p = true) : PropOf K (He.ga K p.1) p.2 (prA K p) (gtA K p) := by
  unfold propB at h
  simp only [Bool.and_eq_true, decide_eq_true_eq] at h
  obtain ⟨h1, h2, h3, h4⟩ := h
  refine ⟨h1, h2, h3, ?_⟩
  unfold gtA
  split at h4
  · rename_i g r e
    exact ⟨r, by rw [e]⟩
  · cases h4
def GtD.ok (K : PySem.W.Frag) (d : GtD) : Bool := propB K d.at_ && (PySem.W.keepIn K (.ref (gtA K d.at_)) && (match K.lookup (gtA K d.at_) with
  | some ⟨_, _, .func fd, _⟩ => PySem.W.codeIn K fd.code d.qual && (He.dflB K fd.defaults [] && He.kwdB K fd.kwdefaults [])
  | _ => false))
theorem GtD.funD {K : PySem.W.Frag} {d : GtD} (e : gtW K d.at_ = d.val) (c : d.ok K = true) : ∃ fd, FunD K d.name d.qual d.params d.body d.scope [] [] (gtA K d.at_) fd := by
  unfold GtD.ok at c
  obtain ⟨_, c⟩ := He.ba c
  obtain ⟨kp, c2⟩ := He.ba c
  unfold gtW at e
  generalize gtA K d.at_ = f at *
  cases q : K.lookup f with
  | none =>
    rw [q] at c2
    cases c2
  | some o =>
    obtain ⟨oc, od, dt, osl⟩ := o
    rw [q] at c2 e
    cases dt with
    | func fd =>
      obtain ⟨n1, n2, n3, n4, n5, n6, n7, n8, n9, n10, n11, n12, n13, n14, n15⟩ := fd
      have e2 : (some (n1, n2, n3, n4, n5, n6, n7, n15) : He.FnW) = some (d.name, d.qual, d.params, .stmts d.body, d.scope, mainGlobals, [], builtinsNs) := e
      simp only [Option.some.injEq, Prod.mk.injEq] at e2
      obtain ⟨h1, h2, h3, h4, h5, h6, h7, h8⟩ := e2
      subst h1 h2 h3 h4 h5 h6 h7 h8
      have c3 : (PySem.W.codeIn K n13 d.qual && (He.dflB K n8 [] && He.kwdB K n9 [])) = true := c2
      obtain ⟨k1, k2⟩ := He.ba c3
      obtain ⟨k3, k4⟩ := He.ba k2
      exact ⟨_, ⟨oc, od, n8, n9, n10, n11, n12, n13, n14, osl, rfl, q, k1, He.dflB_ok k3, He.kwdB_ok k4⟩, kp⟩
    | _ => cases c2
/-- what is looked at, with the getters -/
abbrev AlP : Type := AlM × (Bool × List He.FnW)
def obsP (fa : List He.Fa) (fn : List He.DefD) (gs : List GtD) (ex : PySem.W.Frag → Bool) (K : PySem.W.Frag) : AlP := (obsM fa fn ex K, (gs.all fun d => d.ok K, gs.map fun d => gtW K d.at_))
def obsPG (n : Nat) (fa : List He.Fa) (fn : List He.DefD) (gs : List GtD) (ex : PySem.W.Frag → Bool) (g : Addr → Option Obj) : AlP := obsP fa fn gs ex (He.frG g (He.asD g n))
def SaysG (gs : List GtD) (K : PySem.W.Frag) : Prop := (gs.all (fun d => d.ok K), gs.map fun d => gtW K d.at_) = (true, gs.map GtD.val)
def hookP (n : Nat) (fa : List He.Fa) (fn : List He.DefD) (gs : List GtD) (ex : PySem.W.Frag → Bool) : PySem.W.Hook where
  α := AlP
  obs := fun s => obsPG n fa fn gs ex s.heap.get?
  val := fun _ => ((He.valD fn, true), (true, gs.map GtD.val))
  says := fun _ h => ∃ K : PySem.W.Frag, K.In h ∧ He.SaysD fa fn K ∧ ex K = true ∧ SaysG gs K
  of := fun _ _ e => ⟨_, He.frG_in, congrArg (fun z : AlP => z.1.1) e, congrArg (fun z : AlP => z.1.2) e, congrArg (fun z : AlP => z.2) e⟩
  keeps := fun _ _ _ ⟨K, hK, c⟩ k => ⟨K, PySem.W.Frag.In.keeps hK k, c⟩
theorem obsPG_eq {n : Nat} {fa : List He.Fa} {fn : List He.DefD} {gs : List GtD} {ex : PySem.W.Frag → Bool} {g : Addr → Option Obj} {s : Shared} (h : ∀ a, g a = s.heap.get? a) : obsPG n fa fn gs ex g = (hookP n fa fn gs ex).obs s := by
  have e : g = s.heap.get? := funext h
  rw [e] <;> rfl
theorem SaysG.get {gs : List GtD} {K : PySem.W.Frag} (c : SaysG gs K) (i : Nat) {d : GtD} (h : gs[i]? = some d := by rfl) : PropOf K (He.ga K d.at_.1) d.at_.2 (prA K d.at_) (gtA K d.at_) ∧ ∃ fd, FunD K d.name d.qual d.params d.body d.scope [] [] (gtA K d.at_) fd := by
  have c1 : gs.all (fun d => d.ok K) = true := congrArg Prod.fst c
  have c2 : gs.map (fun d => gtW K d.at_) = gs.map GtD.val := congrArg Prod.snd c
  have m := List.mem_of_getElem? h
  have ok := List.all_eq_true.mp c1 d m
  refine ⟨propB_ok (He.ba (show (propB K d.at_ && _) = true from ok)).1, GtD.funD ?_ ok⟩
  have e := congrArg (fun l => l[i]?) c2
  simp only [List.getElem?_map, h, Option.map_some, Option.some.injEq] at e
  exact e
/-! ### a def by its place -/
section
variable {P : Program} {w : World} {K : PySem.W.Frag} {mg : Str → Option Value} {base : Heap} {x qual : Str} {params : Arguments} {body : List Stmt} {scope : Scope} {kws : List (Str × V)} {f : Addr} {fd : FuncData}
theorem fn_raw {N ps : List Str} {k n j : Nat} {b : M Fl} (FD : FunD K x qual params body scope [] kws f fd) (S : FnScope N ps scope) (hn : ps.length = n) (hj : N.length - n = j)
    (hbody : ∀ (cdv : Value) (A : Around) (outer : List PySem.Env) (s : Shared) (H : Hp) (E : XK), Room k (A.deeper (envOfC qual scope s.heap.objs.size f cdv)) → Takes (cxOf (L2.CX P w) P w K mg base N qual scope f cdv A outer s H E) (fun cls d _ H' => E cls d H') →
      PSsM (cxOf (L2.CX P w) P w K mg base N qual scope f cdv A outer s H E) (fun cls d _ H' => E cls d H') body b) : FnOk P w K mg base (L2.CX P w) (k + 1) f fd ps (spM w K n (fnM j b)) := by
  refine FD.ok S (fun vs H Q E h => ?_) (fun cdv A outer s H vs Q E hr h => ?_)
  · obtain ⟨ra, F, ds, row, _, _, _, rp, hl, _⟩ := h
    rw [rp.length, hl, hn]
  · have tk : Takes (cxOf (L2.CX P w) P w K mg base N qual scope f cdv A outer s H E) (fun cls d _ H' => E cls d H') := takes_of rfl rfl rfl rfl
    refine ⟨_, hbody cdv A outer s H E hr tk, ?_⟩
    obtain ⟨ra, F, ds, row, hf, fra, ro, rp, hl, h⟩ := h
    have R := rel_start (N := N) hf fra ro rp j (by rw [rp.length, hl]; exact hj)
    refine ⟨ra, _, F, _, R, ?_⟩
    unfold fnM at h
    show Res.wp _ _ _
    cases eb : b ⟨ds.map Slot.val ++ List.replicate j .no, row⟩ with
    | err =>
      rw [eb] at h
      exact h
    | exc y e' =>
      rw [eb] at h
      exact fun cls d σ' F' H' s' R' hx => h F' H' cls d (aft_of R' s') hx
    | ok fl e' =>
      rw [eb] at h
      intro σ' F' H' s' R'
      cases fl with
      | nx => exact h F' H' .non (aft_of R' s') .non
      | rt d => exact fun v rv => h F' H' v (aft_of R' s') rv
      | bk => exact h.elim
      | ct => exact h.elim
end
/-- a property of the rules' class -/
structure Gt (P : Program) (w : World) (K : PySem.W.Frag) (mg : Str → Option Value) (base : Heap) (f : Str) (k : Nat) (g : FnM) : Prop where
  ex : ∃ p a fd ps, PropOf K (He.ga K "Rule") f p a ∧ FnOk P w K mg base (L2.CX P w) k a fd ps (spM w K 1 g) ∧ Binds K fd ps []
/-- a call that may not raise -/
def callN (g : FnM) (ds : List D) : M D := fun e => match g ds e.row with
  | .ret d row' => .ok d { e with row := row' }
  | _ => .err
section
variable {X : Cx} {W : WX} {k k' : Nat} {g : FnM} {e : Expr} {f : Str} {pos : Pos} {m : M D}
end
end Mi

set_option Elab.async false
set_option linter.all false
set_option maxRecDepth 100000
set_option maxHeartbeats 4000000
/-! Mirrors, part M14: the rules' own ==, and != by it. -/
namespace Mi
open PySem PySem.Spec PyProof.Rows L2
/-! ### the snapshot -/
def eqB (K : PySem.W.Frag) : Bool := match K.lookup (He.ga K "Rule") with
  | some ⟨.type "type", _, .cls cd, sl⟩ => (match cd.mro, sl.toList with
    | [.ref C', .type t], [_, _, _, _, some (.builtin _), _] => C' == He.ga K "Rule" && (t == "object" && (!cd.hasDel && (PySem.W.nsOkIn K cd.ns && (decide (PySem.W.nsIn K cd.ns "__eq__" = some (some (.ref (He.ma K (He.ga K "Rule") "__eq__")))) && decide (PySem.W.nsIn K cd.ns "__ne__" = some none)))))
    | _, _ => false)
  | _ => false
def eqB2 (K : PySem.W.Frag) : Bool := eqB K && (decide (PySem.W.findIn K (.ref (He.ga K "Rule")) "__eq__" = some (some (.ref (He.ma K (He.ga K "Rule") "__eq__")))) && (PySem.W.isFn K (.ref (He.ma K (He.ga K "Rule") "__eq__")) && (decide (PySem.W.subIn K (.type "tuple") (.ref (He.ga K "Rule")) = some false) &&
  (match K.lookup (He.ma K (He.ga K "Rule") "__eq__") with
    | some ⟨.type "function", _, _, _⟩ => true
    | _ => false))))
structure EqCls (K : PySem.W.Frag) : Prop where
  c : ∃ nm q N bs sn sub ab col dd k0 k1 k2 k3 k5 n hd, K.lookup (He.ga K "Rule") = some (excClassObj nm q (He.ga K "Rule") N bs [.type "object"] hd sn sub ab col dd k0 k1 k2 k3 k5 n) ∧ PySem.W.nsOkIn K N = true ∧ PySem.W.nsIn K N "__eq__" = some (some (.ref (He.ma K (He.ga K "Rule") "__eq__"))) ∧ PySem.W.nsIn K N "__ne__" = some none
  f : PySem.W.findIn K (.ref (He.ga K "Rule")) "__eq__" = some (some (.ref (He.ma K (He.ga K "Rule") "__eq__")))
  fn : PySem.W.isFn K (.ref (He.ma K (He.ga K "Rule") "__eq__")) = true
  tu : PySem.W.subIn K (.type "tuple") (.ref (He.ga K "Rule")) = some false
  o : ∃ d dt sl, K.lookup (He.ma K (He.ga K "Rule") "__eq__") = some ⟨.type "function", d, dt, sl⟩
theorem eqB2_ok {K : PySem.W.Frag} (h : eqB2 K = true) : EqCls K := by
  unfold eqB2 at h
  simp only [Bool.and_eq_true, decide_eq_true_eq] at h
  obtain ⟨h1, h2, h3, h4, h5⟩ := h
  refine ⟨?_, h2, h3, h4, ?_⟩
  · unfold eqB at h1
    split at h1
    · rename_i dd cd sl ho
      split at h1
      · rename_i C' t k0 k1 k2 k3 n k5 hm hs
        simp only [Bool.and_eq_true, beq_iff_eq, Bool.not_eq_true', decide_eq_true_eq] at h1
        obtain ⟨rfl, rfl, hdel, hns, he, hne⟩ := h1
        obtain ⟨nm, bs, mro, ns, qn, hd, sn, sub, ab, col, del⟩ := cd
        dsimp only at hm hdel hns he hne
        subst hm hdel
        have hsl : sl = #[k0, k1, k2, k3, some (.builtin n), k5] := by
          obtain ⟨l⟩ := sl
          simp only at hs
          rw [hs]
        subst hsl
        exact ⟨nm, qn, ns, bs, sn, sub, ab, col, dd, k0, k1, k2, k3, k5, n, hd, ho, hns, he, hne⟩
      · cases h1
    · cases h1
  · split at h5
    · rename_i d dt sl e
      exact ⟨d, dt, sl, e⟩
    · cases h5
theorem ns_get {K : PySem.W.Frag} {h : Heap} {N : Addr} {m : Str → Option Value} {n : Str} {v : Value} (X : K.In h) (G : h.Ns N m) (e : PySem.W.nsIn K N n = some (some v)) : m n = some v := by
  obtain ⟨o, es, ep, ho, hd, _, hf⟩ := G
  unfold PySem.W.nsIn at e
  cases q : K.lookup N with
  | none => rw [q] at e; cases e
  | some ob =>
    rw [q] at e
    have hob := X _ _ q
    rw [ho] at hob
    cases hob
    obtain ⟨oc, od, dt, sl⟩ := o
    simp only at hd
    subst hd
    simp only at e
    cases k : es.toList.find? (·.key.isStr n) with
    | none =>
      rw [k] at e
      simp only at e
      split at e <;> cases e
    | some en =>
      rw [k] at e
      cases e
      rw [← hf]
      unfold nsFind findBy
      rw [← Array.find?_toList, k]
      rfl
/-- the class's == -/
structure EqFn (P : Program) (w : World) (K : PySem.W.Frag) (mg : Str → Option Value) (base : Heap) (k : Nat) (g : FnM) : Prop where
  c : EqCls K
  ex : ∃ fd ps, FnOk P w K mg base (L2.CX P w) k (He.ma K (He.ga K "Rule") "__eq__") fd ps (spM w K 2 g) ∧ Binds K fd ps []
def rEqO (w : World) (K : PySem.W.Frag) (g : FnM) (neg : Bool) : R2 := fun x y H Q => ∃ a dx fs, x = .ref a ∧ H a = some (.ins (He.ga K "Rule") dx fs) ∧ ((∃ b dy gs, y = .ref b ∧ H b = some (.ins (He.ga K "Rule") dy gs)) ∨ (neg = false ∧ ∃ t xs, y = .ref t ∧ SqT K H t xs)) ∧
  spM w K 2 g [x, y] H (fun v H' => ∃ b : Bool, v = .bl b ∧ Q (.bl (b != neg)) H') E0
section
variable {X : Cx} {W : WX} {k k' : Nat} {g : FnM} {a b : Expr} {ma mb : M Ref} {pos : Pos}
theorem op_neO (G : EqFn X.prog X.w X.K X.mg X.base k g) (hr : Room (k + 1) X.A) : OpR X (compareOp .NotEq) (rEqO X.w X.K g true) := by
  intro pins s σ H x y v u Q I rx ry h
  obtain ⟨a, dx, fs, rfl, ha, hy, hsp⟩ := h
  obtain ⟨c, fd, ps, FO, hb⟩ := G
  cases rx
  obtain ⟨mA, J, _⟩ := ins_get I.hok ha
  obtain ⟨od, J, _⟩ := J.look
  have run : wpAny (model X.prog X.w) X.A.in1 (call (.ref (He.ma X.K (He.ga X.K "Rule") "__eq__")) [.ref a, u]) (fun v s' => ∃ b, v = .bool b ∧ EP X pins σ Q (.bool (!b)) s') X.xe s := by
    have hl := FO.len _ _ _ _ hsp
    refine wpAny_call (codeAny_mono (FO.run X.A.in1 X.stack s H ⟨[.ref a, u], []⟩ [.ref a, u] [.ref a, y] _ E0 hr.in1 I.env0.in1 (by
      have := hb s [.ref a, u] I.kIn (by simpa using hl)
      simpa using this) (.cons rfl (.cons ry .nil)) hsp) fun r s' hq => ?_)
    cases r with
    | error e => exact passL pins σ H s e s' I hq
    | ok fl =>
      cases fl with
      | ret w =>
        obtain ⟨z, H', I', rz, b, ez, q⟩ := I.after hq
        subst ez
        cases rz
        have hbf : (b != true) = !b := by cases b <;> rfl
        rw [hbf] at q
        exact ⟨b, rfl, .bl (!b), H', I', rfl, q⟩
      | next => exact False.elim hq
      | brk => exact False.elim hq
      | cont => exact False.elim hq
  rcases hy with ⟨b, dy, gs, rfl, hb'⟩ | ⟨z, _⟩
  · cases ry
    obtain ⟨mB, J', _⟩ := ins_get I.hok hb'
    obtain ⟨od', J', _⟩ := J'.look
    obtain ⟨nm, q, N, bs, sn, sub, ab, col, dd, k0, k1, k2, k3, k5, n, hd, hC, hns, he, hne⟩ := c.c
    obtain ⟨d, dt, sl, hf⟩ := c.o
    have G := Heap.Ns.of_isNs (PySem.W.isNs_of_in I.kIn hns)
    obtain ⟨h, g', d', t, os⟩ := s
    exact compareOp_ne_ownEq F.cmp_object ⟨_, _, nm, q, N, bs, hd, sn, sub, ab, col, dd, k0, k1, k2, k3, k5, n, _, _, J.at_, J.cls, I.kIn _ _ hC, G, ns_get I.kIn G he, I.kIn _ _ hf, rfl, F.cmp_object.mro, F.cmp_object.eq.lookup, PySem.W.ns_none_of I.kIn G hne⟩ J'.at_ J'.cls (by have := hr.un; omega) run
  · cases z
/-- the mirror -/
def callG (g : FnM) (ds : List D) (neg : Bool) : M D := bindM (callN g ds) fun r => match r with
  | .bl b => pureM (.bl (b != neg))
  | _ => errM
def eqDF (neg : Bool) (d d' : D) : Option D := if neg = true then neF d d' else eqF d d'
def eqOM (ma mb : M Ref) (g : FnM) (neg : Bool) : M D := bindM ma fun x => bindM mb fun y => bindM (derefM x) fun d => bindM (derefM y) fun d' => match d with
  | .obj l => (match d' with
    | .obj l' => callG g [.obj l, .obj l'] neg
    | .tup l' => if neg = true then errM else callG g [.obj l, .tup l'] neg
    | _ => errM)
  | _ => liftO (eqDF neg d d')
def rEqA (w : World) (K : PySem.W.Frag) (g : FnM) (neg : Bool) : R2 := fun x y H Q => (if neg = true then rNeD K x y H Q else rEqD K x y H Q) ∨ rEqO w K g neg x y H Q
theorem callG_sp {ra : Addr} {HK : Kp} {F H : Hp} {e : Env} {σ : St} {Q : VK} {ds : List D} {neg : Bool} {vs : List V} (R : Rel X.w X.K ra HK F e σ H) (hl : ds.length = 2) (hv : RepA X.w X.K ra F vs ds)
    (h : (callG g ds neg e).wp (okG TV X.w X.K ra HK F σ Q) (exW X.w X.K ra HK F W)) : spM X.w X.K 2 g vs H (fun v H' => ∃ b : Bool, v = .bl b ∧ Q (.bl (b != neg)) H') E0 := by
  refine ⟨ra, F, ds, e.row, R.fh, R.fra, R.row, hv, hl, ?_⟩
  unfold callG at h
  have h0 := wp_bind.mp h
  have h1 : Res.wp (match g ds e.row with
    | .ret d row' => Res.ok d { e with row := row' }
    | _ => Res.err) (fun r e' => Res.wp ((match r with
      | .bl b => pureM (.bl (b != neg))
      | _ => errM : M D) e') (okG TV X.w X.K ra HK F σ Q) (exW X.w X.K ra HK F W)) (exW X.w X.K ra HK F W) := h0
  cases eg : g ds e.row with
  | err =>
    rw [eg] at h1
    exact h1
  | exc x row' =>
    rw [eg] at h1
    exact False.elim h1
  | ret d row' =>
    rw [eg] at h1
    intro F' H' v af rv
    cases d with
    | bl b =>
      cases rv
      exact ⟨b, rfl, h1 _ F' H' af.f (R.after af) (.bl _)⟩
    | _ => exact h1.elim
theorem eqO_read {σ : St} {H : Hp} {Q : VK} {neg : Bool} (h : tG TV X.w X.K W (eqOM ma mb g neg) σ H Q) : tOp (rEqA X.w X.K g neg) (tG TR X.w X.K W ma) (tG TR X.w X.K W mb) σ H Q := by
  obtain ⟨ra, HK, F, e, R, h⟩ := h
  unfold eqOM at h
  refine stepG R h fun F1 e1 x v H1 s1 R1 r1 q1 => ?_
  refine stepG R1 q1 fun F2 e2 y u H2 s2 R2 r2 q2 => ?_
  have r1' : TR X.w X.K ra HK σ e2 F2 H2 v x := by
    cases x with
    | val d => exact Rep.mono s2 r1
    | slot i => exact r1
  obtain ⟨d, hd, q3, _⟩ := R2.deref r1' q2
  obtain ⟨d', hd', q4, _⟩ := R2.deref r2 q3
  have plain : (liftO (eqDF neg d d') e2).wp (okG TV X.w X.K ra HK F2 σ Q) (exW X.w X.K ra HK F2 W) → rEqA X.w X.K g neg v u H2 Q := fun q => by
    unfold liftO at q
    cases ez : eqDF neg d d' with
    | none =>
      rw [ez] at q
      exact q.elim
    | some z =>
      rw [ez] at q
      left
      unfold eqDF at ez
      cases neg with
      | true =>
        simp only [if_true] at ez ⊢
        exact ops_ne ra HK F2 e2 σ H2 v u d d' z Q R2 hd hd' ez q
      | false =>
        simp only [Bool.false_eq_true, if_false] at ez ⊢
        exact ops_eq ra HK F2 e2 σ H2 v u d d' z Q R2 hd hd' ez q
  have isV : ∀ {v : V} {d : D}, Held X.w X.K ra F2 H2 v d → (∀ l, d ≠ .lst l) → (∀ l, d ≠ .dct l) → Rep X.w X.K ra F2 v d := fun h n1 n2 => by
    cases h with
    | val r => exact r
    | @own a o ro _ _ =>
      cases o with
      | lst l => exact absurd rfl (n1 l)
      | dct l => exact absurd rfl (n2 l)
  cases d with
  | obj l =>
    have rv := isV hd (fun _ z => by cases z) (fun _ z => by cases z)
    have rv' := rv
    cases rv with
    | @obj a dx vs ds h1 h2 h3 =>
      right
      cases d' with
      | obj l' =>
        have ru := isV hd' (fun _ z => by cases z) (fun _ z => by cases z)
        have ru' := ru
        cases ru with
        | @obj b dy ws es k1 k2 k3 => exact ⟨a, dx, _, rfl, R2.fh _ _ h1, .inl ⟨b, dy, _, rfl, R2.fh _ _ k1⟩, callG_sp R2 rfl (.cons rv' (.cons ru' .nil)) q4⟩
      | tup l' =>
        have ru := isV hd' (fun _ z => by cases z) (fun _ z => by cases z)
        have ru' := ru
        cases neg with
        | true =>
          simp only [if_true] at q4
          exact q4.elim
        | false =>
          simp only [Bool.false_eq_true, if_false] at q4
          cases ru with
          | @tup b ws es k1 k2 => exact ⟨a, dx, _, rfl, R2.fh _ _ h1, .inr ⟨rfl, b, ws, rfl, Same.seqT R2.fh k1⟩, callG_sp R2 rfl (.cons rv' (.cons ru' .nil)) q4⟩
      | _ => exact q4.elim
  | _ => exact plain q4
theorem op_neA (G : EqFn X.prog X.w X.K X.mg X.base k g) (hr : Room (k + 1) X.A) (hu : X.A.units + 64 < cLine) : OpR X (compareOp .NotEq) (rEqA X.w X.K g true) := by
  intro pins s σ H x y v u Q I rx ry h
  rcases h with h | h
  · exact op_neD hu pins s σ H x y v u Q I rx ry (by simpa using h)
  · exact op_neO G hr pins s σ H x y v u Q I rx ry h
theorem pmt_neO (G : EqFn X.prog X.w X.K X.mg X.base k g) (hr : Room k' X.A) (ha : PMR X W a ma) (hb : PMR X W b mb) (hk : k + 1 ≤ k' := by decide) : PMT X W (.Compare a [.NotEq] [b] pos) (testM (eqOM ma mb g true)) := by
  refine PT.weaken (pt_cmpR (op_neA G (hr.mono hk) (by have := hr.un; omega)) ha hb (nomark _)) fun σ H Q h => ?_
  exact eqO_read (test_read h)
end
end Mi

set_option Elab.async false
set_option linter.all false
set_option maxRecDepth 100000
set_option maxHeartbeats 4000000
/-! Mi, part M15: a comprehension over one's own list, which stays one's own. -/
namespace Mi
open PySem PySem.Spec PyProof.Rows L2
section
variable {w : World} {K : PySem.W.Frag} {ra : Addr} {HK : Kp} {F F' H H' : Hp} {e : Env} {σ : St}
end
section
variable {X : Cx} {W : WX} {elt tg : Expr} {ifs : List Expr} {scope : Scope} {own : List (Str × Nat)} {pos xpos : Pos} {g : D → M Unit} {t : M Bool} {el : M D} {is : List Nat} {x : Str}
end
end Mi

set_option Elab.async false
set_option linter.all false
set_option maxRecDepth 100000
set_option maxHeartbeats 4000000
/-! Mi, part M16: texts: str, int of a text, join, split, f-strings. -/
namespace Mi
open PySem PySem.Spec PyProof.Rows L2
section
variable {X : Cx} {W : WX} {a b : Expr} {ma : M D} {mr mb : M Ref} {apos pos : Pos}
/-! ### f-strings -/
end
end Mi

set_option Elab.async false
set_option linter.all false
set_option maxRecDepth 100000
set_option maxHeartbeats 4000000
/-! Mi, part M17: how often a truth value stands in a list. -/
namespace Mi
open PySem PySem.Spec PyProof.Rows L2
section
variable {X : Cx} {W : WX} {a b : Expr} {ma mb : M D} {apos pos : Pos}
end
end Mi

set_option Elab.async false
set_option linter.all false
set_option maxRecDepth 100000
set_option maxHeartbeats 4000000
/-! Mi, part M18: x[i] op= e on a list of one's own, whole numbers. -/
namespace Mi
open PySem PySem.Spec PyProof.Rows L2
section
variable {X : Cx} {W : WX} {x : Str} {p tpos pos : Pos}
end
end Mi

set_option Elab.async false
set_option linter.all false
set_option maxRecDepth 100000
set_option maxHeartbeats 4000000
/-! Mi, part M19: a rule made and a field of it set at once. -/
namespace Mi
open PySem PySem.Spec PyProof.Rows L2
section
variable {X : Cx} {W : WX} {k k' : Nat} {g : FnM} {e : Expr} {es : List Expr} {p pos : Pos} {r : M (List D)}
end
section
variable {w : World} {K : PySem.W.Frag} {ra : Addr} {HK : Kp} {F F' H H' : Hp} {e : Env} {σ : St}
theorem Rel.pinAt (R : Rel w K ra HK F e σ H) {a : Addr} {u : HO} (hu : H a = some u) (fa : F a = none) (ka : HK.h a = none) (na : a ≠ ra) (nd : NotIn e σ H a) : Rel w K ra (pinD HK a u) F e σ H := by
  refine ⟨R.fh, fun b z q => ?_, R.len, fun i s h => ?_, R.sep, R.row, R.fra, ?_, fun b hb => ?_⟩
  · have q' : upd HK.h a u b = some z := q
    by_cases hb : b = a
    · rw [hb, upd_same] at q'
      rw [hb, hu]
      exact q'
    · rw [upd_ne hb] at q'
      exact R.kh b z q'
  · cases s with
    | no => trivial
    | pin => exact R.sl i _ h
    | val d => exact R.sl i _ h
    | dsk l o' r' =>
      obtain ⟨b, e1, r, fb, kb, nb, me⟩ := R.sl i _ h
      refine ⟨b, e1, r, fb, ?_, nb, me⟩
      show upd HK.h a u b = none
      rw [upd_ne fun z => nd i _ b h rfl e1 (.inl z.symm)]
      exact kb
    | own o' =>
      obtain ⟨b, e1, r, fb, kb, nb⟩ := R.sl i _ h
      refine ⟨b, e1, r, fb, ?_, nb⟩
      show upd HK.h a u b = none
      rw [upd_ne fun z => nd i _ b h rfl e1 (.inl z.symm)]
      exact kb
    | box l =>
      obtain ⟨b, e1, es, at_, rb, nd', f⟩ := R.sl i _ h
      refine ⟨b, e1, es, at_, rb, nd', fun p hp => ?_⟩
      obtain ⟨f1, f2, f3, f4⟩ := f p hp
      refine ⟨f1, ?_, f3, f4⟩
      show upd HK.h a u p = none
      rw [upd_ne fun z => nd i _ b h rfl e1 (by rw [← z]; exact hp.imp id fun q => ⟨rfl, q⟩)]
      exact f2
  · show upd HK.h a u ra = none
    rw [upd_ne na.symm]
    exact R.kra
  · rcases hb with hb | rfl
    · refine ⟨?_, (R.pn b hb).2⟩
      show upd HK.h a u b ≠ none
      by_cases c : b = a
      · rw [c, upd_same]
        exact fun z => by cases z
      · rw [upd_ne c]
        exact (R.pn b hb).1
    · exact ⟨by show upd HK.h b u b ≠ none; rw [upd_same]; exact (fun z => by cases z), fa⟩
end
section
variable {X : Cx} {W : WX}
end
end Mi

set_option Elab.async false
set_option linter.all false
set_option maxRecDepth 100000
set_option maxHeartbeats 4000000
/-! Mi, part M20: min(words, key=f), f a def that tells (how long, the word). -/
namespace Mi
open PySem PySem.Spec PyProof.Rows L2
open PySem.W (dataLt keyToks iter_listW argBest_fold)
/-- nothing but new tuples -/
def Grown (H H' : Hp) : Prop := ∀ b, H' b = H b ∨ (H b = none ∧ ∃ xs, H' b = some (.tup xs))
theorem Grown.refl (H : Hp) : Grown H H := fun _ => .inl rfl
theorem Grown.at {H H' : Hp} (g : Grown H H') {b : Addr} (h : H b ≠ none) : H' b = H b := (g b).elim id fun z => absurd z.1 h
theorem Grown.same {H H' : Hp} (g : Grown H H') : Same H H' := fun b u e => (g.at (by rw [e]; exact fun z => by cases z)).trans e
theorem Grown.free {H H' : Hp} (g : Grown H H') {b : Addr} (h : H' b = none) : H b = none := (g b).elim (fun z => z ▸ h) fun z => z.1
theorem Grown.step {H H' : Hp} (g : Grown H H') {a : Addr} (h : H' a = none) (xs : List V) : Grown H (upd H' a (.tup xs)) := fun b => by
  by_cases c : b = a
  · subst c
    exact .inr ⟨g.free h, xs, upd_same⟩
  · rw [upd_ne c]
    exact g b
/-! ### the order -/
/-! ### the key's promise -/
def spOrd (K : PySem.W.Frag) : Sp := fun vs H Q _ => ∃ b ns, vs = [.ref b] ∧ SqT K H b (List.map V.int ns) ∧ ∀ a, H a = none → Q (.ref a) (upd H a (.tup [.int ns.length, .ref b]))
structure FnOrd (P : Program) (w : World) (K : PySem.W.Frag) (mg : Str → Option Value) (base : Heap) (x : Str) (k : Nat) : Prop where
  ex : ∃ f fd ps, FnOk P w K mg base (L2.CX P w) k f fd ps (spOrd K) ∧ mg x = some (.ref f) ∧ PySem.W.keepIn K (.ref f) = true ∧ Binds K fd ps []
section
variable {X : Cx} {W : WX}
end
end Mi

set_option Elab.async false
set_option linter.all false
set_option maxRecDepth 100000
set_option maxHeartbeats 4000000
/-! Mi, part M21: zip of a tuple and a list. -/
namespace Mi
open PySem PySem.Spec PyProof.Rows L2
section
variable {X : Cx} {W : WX}
end
end Mi

set_option Elab.async false
set_option linter.all false
set_option maxRecDepth 100000
set_option maxHeartbeats 4000000
/-! Mi, part M22: lists of one's own by +; xs[::-1] of a list; a new list that a call gives back. -/
namespace Mi
open PySem PySem.Spec PyProof.Rows L2
section
variable {X : Cx} {W : WX} {a b : Expr} {ma mb : M Ref} {pos : Pos}
end
end Mi

set_option Elab.async false
set_option linter.all false
set_option maxRecDepth 100000
set_option maxHeartbeats 4000000
/-! Mi, part M23: three and four names at once, where a name is read from inside or there are four. -/
namespace Mi
open PySem PySem.Spec PyProof.Rows L2
section
variable {X : Cx} {W : WX} {r : M (List Slot)}
end
end Mi

set_option Elab.async false
set_option linter.all false
set_option maxRecDepth 100000
set_option maxHeartbeats 4000000
/-! Mi, part M24: max of a tuple of whole numbers. -/
namespace Mi
open PySem PySem.Spec PyProof.Rows L2
section
variable {X : Cx} {W : WX} {a : Expr} {ma : M Ref} {pos : Pos}
end
end Mi

set_option Elab.async false
set_option linter.all false
set_option maxRecDepth 100000
set_option maxHeartbeats 4000000
/-! Mi, part M44: desks (only with the texts of mi13.py): fields, what is behind a call that lends a desk, calls that lend. -/
namespace Mi
open PySem PySem.Spec PyProof.Rows L2
/-! ### the class -/
structure DkC (K : PySem.W.Frag) : Prop where
  c : Cls K (He.ga K "Desk")
  own : NoAttr K (He.ga K "Desk") "own"
  rows : NoAttr K (He.ga K "Desk") "rows"
/-! ### fields -/
def dskO (i : Nat) : M D := fun e => match e.sl[i]? with
  | some (.dsk _ o _) => .ok o e
  | _ => .err
def dskR (i : Nat) : M D := fun e => match e.sl[i]? with
  | some (.dsk _ _ r) => .ok r e
  | _ => .err
def dskSet (i : Nat) (m : M D) : M Fl := bindM m fun d e => match e.sl[i]? with
  | some (.dsk l o _) => .ok .nx { e with sl := e.sl.set i (.dsk l o d) }
  | _ => .err
/-- a state behind a call that was lent a desk (at x) -/
structure AftD (ra x : Addr) (F H F' H' : Hp) (row' : RowS) : Prop where
  f : Same F F'
  fh : Same F' H'
  fra : F' ra = none
  row : RowOk ra F' H' row'
  kept : ∀ b u, H b = some u → b ≠ ra → b ≠ x → H' b = some u
  pn : ∀ b, H b ≠ none → F b = none → F' b = none
section
variable {w : World} {K : PySem.W.Frag} {ra : Addr} {HK : Kp} {F F' H H' : Hp} {e : Env} {σ : L2.St}
theorem Rel.dskAft (R : Rel w K ra HK F e σ H) {i : Nat} {l : Bool} {o r o' r' : D} {a : Addr} {row' : RowS} (h : e.sl[i]? = some (.dsk l o r)) (hs : σ[i]? = some (some (.ref a))) (A : AftD ra a F H F' H' row') (Dk : DeskAt w K ra F' H' a o' r') :
    Rel w K ra HK F' ⟨e.sl.set i (.dsk l o' r'), row'⟩ σ H' := by
  have hi : i < e.sl.length := (List.getElem?_eq_some_iff.mp h).1
  have fa := R.foot h rfl hs (.inl rfl)
  have hal : SlotOk w K ra HK F H σ[i]? (.dsk l o r) := R.sl i _ h
  have other : ∀ (j : Nat) (s : Slot) (b p : Addr), i ≠ j → e.sl[j]? = some s → s.isC = true → σ[j]? = some (some (.ref b)) → Foot H s b p → p ≠ a := fun j s b p c hj sc eq f z => R.sep i j _ s a b p c h hj rfl sc hs eq (.inl z) f
  have kp : ∀ b, F b = none ∧ HK.h b = none ∧ b ≠ ra ∧ H b ≠ none → b ≠ a → H' b = H b := fun b hb hne => by
    cases ez : H b with
    | none => exact absurd ez hb.2.2.2
    | some u => exact A.kept b u ez hb.2.2.1 hne
  have get : ∀ {j : Nat} {s : Slot}, (e.sl.set i (.dsk l o' r'))[j]? = some s → (i = j ∧ s = .dsk l o' r') ∨ (i ≠ j ∧ e.sl[j]? = some s) := fun {j s} hj => by
    by_cases c : i = j
    · subst c
      rw [List.getElem?_set_self hi] at hj
      cases hj
      exact .inl ⟨rfl, rfl⟩
    · rw [List.getElem?_set_ne c] at hj
      exact .inr ⟨c, hj⟩
  refine ⟨A.fh, fun b u q => A.kept b u (R.kh b u q) (fun z => by rw [z, R.kra] at q; cases q) (fun z => by rw [z, fa.2.1] at q; cases q), by rw [List.length_set]; exact R.len, fun j s hj => ?_, ?_, A.row, A.fra, R.kra, fun b hb => ⟨(R.pn b hb).1, ?_⟩⟩
  · rcases get hj with ⟨rfl, rfl⟩ | ⟨c, hj⟩
    · obtain ⟨a2, e1, _, f1, k1, n1, me⟩ := hal
      rw [hs] at e1
      cases e1
      exact ⟨a, hs, Dk, A.pn a fa.2.2.2 f1, k1, n1, me⟩
    · refine (R.sl j s hj).mono A.f fun q hc eq p hf => ?_
      have g := R.foot hj hc eq hf
      refine ⟨kp p g (other j s q p c hj hc eq hf), ?_⟩
      rw [g.1]
      exact A.pn p g.2.2.2 g.1
  · intro j k s1 s2 b b' p hjk h1 h2 c1 c2 h3 h4 f f2
    have back : ∀ {m : Nat} {t : Slot} {b : Addr}, (e.sl.set i (.dsk l o' r'))[m]? = some t → t.isC = true → σ[m]? = some (some (.ref b)) → Foot H' t b p → ∃ t', e.sl[m]? = some t' ∧ t'.isC = true ∧ Foot H t' b p := fun {m t b} hm tc hb f => by
      rcases get hm with ⟨rfl, rfl⟩ | ⟨c, hm⟩
      · rcases f with rfl | ⟨z, _⟩
        · exact ⟨_, h, rfl, .inl rfl⟩
        · cases z
      · exact ⟨t, hm, tc, (Foot.congr (kp b (R.foot hm tc hb (.inl rfl)) (other m t b b c hm tc hb (.inl rfl)))).mp f⟩
    obtain ⟨t1, g1, i1, f1⟩ := back h1 c1 h3 f
    obtain ⟨t2, g2, i2, f2'⟩ := back h2 c2 h4 f2
    exact R.sep j k t1 t2 b b' p hjk g1 g2 i1 i2 h3 h4 f1 f2'
  · refine A.pn b ?_ (R.pn b hb).2
    cases ez : HK.h b with
    | none => exact absurd ez (R.pn b hb).1
    | some u =>
      rw [R.kh b u ez]
      exact fun z => by cases z
end
section
variable {X : Cx} {W : WX} {x : Str} {e : Expr} {m : M D} {p1 p2 pos : Pos}
theorem pm_dskO (C : DkC X.K) (i : Nat) (hN : X.N[i]? = some x := by rfl) (hv : Vis X.env.scope x := by first | exact Or.inl rfl | exact Or.inr (Or.inl rfl) | exact Or.inr (Or.inr rfl)) (hd : (x == ("__debug__" : Str)) = false := by decide) (hcd : (x == ("__classdict__" : Str)) = false := by decide)
    (hb : attributeBase (.Name x p1) "own" X.env (eval (.Name x p1) X.env) = eval (.Name x p1) X.env := by rfl) : PM X W (.Attribute (.Name x p1) "own" pos) (dskO i) := by
  refine PE.weaken (pe_fld (pe_var hN hv hd hcd) hb) ?_
  rintro σ H Q ⟨ra, HK, F, e, R, h⟩
  unfold dskO at h
  cases q : e.sl[i]? with
  | none => rw [q] at h; exact h.elim
  | some s =>
    rw [q] at h
    cases s with
    | dsk l o r =>
      obtain ⟨a, e1, ⟨dx, v1, v2, h1, h2, h3⟩, _⟩ := R.sl i _ q
      exact ⟨.ref a, e1, a, _, dx, _, v1, rfl, h1, C.c, C.own, rfl, h v1 F H (Same.refl F) R h2⟩
    | _ => exact h.elim
theorem pm_dskR (C : DkC X.K) (i : Nat) (hN : X.N[i]? = some x := by rfl) (hv : Vis X.env.scope x := by first | exact Or.inl rfl | exact Or.inr (Or.inl rfl) | exact Or.inr (Or.inr rfl)) (hd : (x == ("__debug__" : Str)) = false := by decide) (hcd : (x == ("__classdict__" : Str)) = false := by decide)
    (hb : attributeBase (.Name x p1) "rows" X.env (eval (.Name x p1) X.env) = eval (.Name x p1) X.env := by rfl) : PM X W (.Attribute (.Name x p1) "rows" pos) (dskR i) := by
  refine PE.weaken (pe_fld (pe_var hN hv hd hcd) hb) ?_
  rintro σ H Q ⟨ra, HK, F, e, R, h⟩
  unfold dskR at h
  cases q : e.sl[i]? with
  | none => rw [q] at h; exact h.elim
  | some s =>
    rw [q] at h
    cases s with
    | dsk l o r =>
      obtain ⟨a, e1, ⟨dx, v1, v2, h1, h2, h3⟩, _⟩ := R.sl i _ q
      exact ⟨.ref a, e1, a, _, dx, _, v2, rfl, h1, C.c, C.rows, rfl, h v2 F H (Same.refl F) R h3⟩
    | _ => exact h.elim
theorem psm_dskSet (C : DkC X.K) (i : Nat) (hm : PM X W e m) (hN : X.N[i]? = some x := by rfl) (hv : Vis X.env.scope x := by first | exact Or.inl rfl | exact Or.inr (Or.inl rfl) | exact Or.inr (Or.inr rfl)) (hd : (x == ("__debug__" : Str)) = false := by decide) (hcd : (x == ("__classdict__" : Str)) = false := by decide)
    (hs : swapsWith e (some (.Attribute (.Name x p1) "rows" p2)) pos.line X.env = pure false := by rfl) : PSM X W (.Assign [.Attribute (.Name x p1) "rows" p2] e pos) (dskSet i m) := by
  refine PS.weaken (ps_fld (pe_var hN hv hd hcd) hm hs) ?_
  rintro D' σ H ⟨ra, HK, F, e, R, h⟩
  unfold dskSet at h
  refine stepS R h fun F1 e1 d v H1 s1 R1 r1 q1 => ?_
  cases q : e1.sl[i]? with
  | none => rw [q] at q1; exact q1.elim
  | some s =>
    rw [q] at q1
    cases s with
    | dsk l o r =>
      obtain ⟨a, e2, ⟨dx, v1, v2, h1, h2, h3⟩, fa, ka, na, _⟩ := R1.sl i _ q
      have r1 : Rep X.w X.K ra F1 v d := r1
      have q2 : okS X.w X.K ra HK F1 D' .nx { e1 with sl := e1.sl.set i (.dsk l o d) } := q1
      have ep : putF "rows" v (deskF v1 v2) = deskF v1 v := rfl
      refine ⟨.ref a, e2, a, _, dx, _, rfl, h1, C.c, C.rows, (by decide : (2 : Nat) < 1000), ?_⟩
      rw [ep]
      have A : AftD ra a F1 H1 F1 (upd H1 a (.ins (He.ga X.K "Desk") dx (deskF v1 v))) e1.row := ⟨Same.refl F1, fun b u q => by rw [upd_ne (ne_of_none q fa)]; exact R1.fh b u q, R1.fra, R1.row.mono (Same.refl F1) (upd_ne (Ne.symm na)), fun b u q _ hb => by rw [upd_ne hb]; exact q, fun b _ h => h⟩
      exact q2 σ F1 _ (Same.refl F1) (R1.dskAft q e2 A ⟨dx, v1, v, upd_same, h2, r1⟩)
    | _ => exact q1.elim
end
/-! ### what a def or a method with a desk promises -/
inductive DRes where
  | ret (d o r : D) (row : RowS) | exc (x : Exn) (o r : D) (row : RowS) | err
abbrev DnM : Type := D → D → List D → RowS → DRes
def spD (w : World) (K : PySem.W.Frag) (n : Nat) (f : DnM) : Sp := fun vs H Q E => ∃ ra F x us ds o r row, vs = .ref x :: us ∧ Same F H ∧ F ra = none ∧ RowOk ra F H row ∧ RepA w K ra F us ds ∧ ds.length = n ∧ DeskAt w K ra F H x o r ∧ F x = none ∧ x ≠ ra ∧ (match f o r ds row with
  | .ret d o' r' row' => ∀ F' H' v, AftD ra x F H F' H' row' → DeskAt w K ra F' H' x o' r' → Rep w K ra F' v d → Q v H'
  | .exc y o' r' row' => ∀ F' H' cls dd, AftD ra x F H F' H' row' → DeskAt w K ra F' H' x o' r' → ExIs w K ra F' H' y cls dd → E cls dd H'
  | .err => False)
def deskOf : List Slot → Option (D × D)
  | .dsk true o r :: _ => some (o, r)
  | _ => none
def dnM (k : Nat) (b : M Fl) : DnM := fun o r ds row => match b ⟨.dsk true o r :: ds.map Slot.val ++ List.replicate k .no, row⟩ with
  | .ok (.rt d) e => (match deskOf e.sl with
    | some p => .ret d p.1 p.2 e.row
    | none => .err)
  | .ok .nx e => (match deskOf e.sl with
    | some p => .ret .non p.1 p.2 e.row
    | none => .err)
  | .ok _ _ => .err
  | .exc x e => (match deskOf e.sl with
    | some p => .exc x p.1 p.2 e.row
    | none => .err)
  | .err => .err
def callD (i : Nat) (f : DnM) (r : M (List D)) : M D := fun e0 => match e0.sl[i]? with
  | some (.dsk _ _ _) => bindM r (fun ds e => match e.sl[i]? with
    | some (.dsk l o q) => (match f o q ds e.row with
      | .ret d o' q' row' => .ok d ⟨e.sl.set i (.dsk l o' q'), row'⟩
      | .exc x o' q' row' => .exc x ⟨e.sl.set i (.dsk l o' q'), row'⟩
      | .err => .err)
    | _ => .err) e0
  | _ => .err
end Mi

set_option Elab.async false
set_option linter.all false
set_option maxRecDepth 100000
set_option maxHeartbeats 4000000
/-! Mi, part M45: desks: a def's entry and end; calls that lend. -/
namespace Mi
open PySem PySem.Spec PyProof.Rows L2
def kpD (H F : Hp) (ra x : Addr) : Kp := ⟨fun b => if b = ra ∨ b = x then none else H b, fun b => H b ≠ none ∧ F b = none ∧ b ≠ ra ∧ b ≠ x, .ref x⟩
section
variable {P : Program} {w : World} {K : PySem.W.Frag} {mg : Str → Option Value} {base : Heap} {x qual : Str} {params : Arguments} {body : List Stmt} {scope : Scope} {kws : List (Str × V)} {f : Addr} {fd : FuncData}
theorem rel_startD {ra x : Addr} {F H : Hp} {N : List Str} {us : List V} {ds : List D} {o r : D} {row : RowS} (hf : Same F H) (fra : F ra = none) (ro : RowOk ra F H row) (rp : RepA w K ra F us ds) (dk : DeskAt w K ra F H x o r) (fx : F x = none) (nx : x ≠ ra) (k : Nat) (hk : N.length - (us.length + 1) = k) :
    Rel w K ra (kpD H F ra x) F ⟨.dsk true o r :: ds.map Slot.val ++ List.replicate k .no, row⟩ (L2.start N (.ref x :: us)) H := by
  subst hk
  have nown : ∀ (i : Nat) (s : Slot), s.isC = true → (ds.map Slot.val ++ List.replicate (N.length - (us.length + 1)) Slot.no)[i]? ≠ some s := fun i s hc h => by
    rw [List.getElem?_append] at h
    split at h
    · rw [List.getElem?_map] at h
      cases q : ds[i]? with
      | none =>
        rw [q] at h
        cases h
      | some d =>
        rw [q] at h
        cases h
        cases hc
    · rw [List.getElem?_replicate] at h
      split at h
      · cases h
        cases hc
      · cases h
  have zero : ∀ (i : Nat) (s : Slot), s.isC = true → (Slot.dsk true o r :: ds.map Slot.val ++ List.replicate (N.length - (us.length + 1)) Slot.no)[i]? = some s → i = 0 := fun i s hc h => by
    cases i with
    | zero => rfl
    | succ i =>
      rw [List.cons_append, List.getElem?_cons_succ] at h
      exact absurd h (nown i s hc)
  refine ⟨hf, fun b u q => ?_, ?_, fun i s h => ?_, fun i j s s' a a' p hij h1 h2 c1 c2 _ _ => ?_, ro, fra, if_pos (.inl rfl), fun b hb => ⟨?_, hb.2.1⟩⟩
  · have q : (if b = ra ∨ b = x then none else H b) = some u := q
    by_cases c : b = ra ∨ b = x
    · rw [if_pos c] at q
      cases q
    · rw [if_neg c] at q
      exact q
  · simp [L2.start, rp.length]
  · cases i with
    | zero =>
      cases h
      exact ⟨x, rfl, dk, fx, if_pos (.inr rfl), nx, fun _ => rfl⟩
    | succ i =>
      have h' : (ds.map Slot.val ++ List.replicate (N.length - (us.length + 1)) Slot.no)[i]? = some s := by
        have h : (Slot.dsk true o r :: ds.map Slot.val ++ List.replicate (N.length - (us.length + 1)) Slot.no)[i + 1]? = some s := h
        rwa [List.cons_append, List.getElem?_cons_succ] at h
      rw [List.getElem?_append] at h'
      split at h'
      · rename_i hl
        rw [List.getElem?_map] at h'
        cases q : ds[i]? with
        | none =>
          rw [q] at h'
          cases h'
        | some d =>
          rw [q] at h'
          cases h'
          obtain ⟨v, hv, rv⟩ := rp.get q
          refine ⟨v, ?_, rv⟩
          unfold L2.start
          have hvl : i < us.length := (List.getElem?_eq_some_iff.mp hv).1
          rw [List.getElem?_append_left (by simp; omega), List.getElem?_map, List.getElem?_cons_succ, hv]
          rfl
      · rw [List.getElem?_replicate] at h'
        split at h'
        · cases h'
          trivial
        · cases h'
  · exact absurd ((zero i s c1 h1).trans (zero j s' c2 h2).symm) hij
  · show (if b = ra ∨ b = x then none else H b) ≠ none
    rw [if_neg fun z => z.elim hb.2.2.1 hb.2.2.2]
    exact hb.1
theorem aftD_of {ra x : Addr} {F H F' H' : Hp} {e' : Env} {σ' : L2.St} {p : D × D} (R' : Rel w K ra (kpD H F ra x) F' e' σ' H') (s : Same F F') (hd : deskOf e'.sl = some p) : AftD ra x F H F' H' e'.row ∧ DeskAt w K ra F' H' x p.1 p.2 := by
  obtain ⟨o, r, t, hsl, rfl⟩ : ∃ o r t, e'.sl = .dsk true o r :: t ∧ p = (o, r) := by
    unfold deskOf at hd
    split at hd
    · rename_i o r t hh
      cases hd
      exact ⟨o, r, t, hh, rfl⟩
    · cases hd
  obtain ⟨a, _, dk, fa, _, _, me⟩ := R'.sl 0 (.dsk true o r) (by rw [hsl]; rfl)
  have e : V.ref x = .ref a := me rfl
  cases e
  refine ⟨⟨s, R'.fh, R'.fra, R'.row, fun b u q hb hx => R'.kh b u (by show (if b = ra ∨ b = x then none else H b) = some u; rw [if_neg fun z => z.elim hb hx]; exact q), fun b h1 h2 => ?_⟩, dk⟩
  by_cases c : b = ra
  · rw [c]
    exact R'.fra
  · by_cases c2 : b = x
    · rw [c2]
      exact fa
    · exact (R'.pn b ⟨h1, h2, c, c2⟩).2
theorem fn_rawD {N ps : List Str} {k n j : Nat} {b : M Fl} (FD : FunD K x qual params body scope [] kws f fd) (S : FnScope N ps scope) (hn : ps.length = n + 1) (hj : N.length - (n + 1) = j)
    (hbody : ∀ (cdv : Value) (A : Around) (outer : List PySem.Env) (s : Shared) (H : Hp) (E : XK), Room k (A.deeper (envOfC qual scope s.heap.objs.size f cdv)) → Takes (cxOf (L2.CX P w) P w K mg base N qual scope f cdv A outer s H E) (fun cls d _ H' => E cls d H') →
      PSsM (cxOf (L2.CX P w) P w K mg base N qual scope f cdv A outer s H E) (fun cls d _ H' => E cls d H') body b) : FnOk P w K mg base (L2.CX P w) (k + 1) f fd ps (spD w K n (dnM j b)) := by
  refine FD.ok S (fun vs H Q E h => ?_) (fun cdv A outer s H vs Q E hr h => ?_)
  · obtain ⟨ra, F, y, us, ds, o, r, row, rfl, _, _, _, rp, hl, _⟩ := h
    rw [List.length_cons, rp.length, hl, hn]
  · have tk : Takes (cxOf (L2.CX P w) P w K mg base N qual scope f cdv A outer s H E) (fun cls d _ H' => E cls d H') := takes_of rfl rfl rfl rfl
    refine ⟨_, hbody cdv A outer s H E hr tk, ?_⟩
    obtain ⟨ra, F, y, us, ds, o, r, row, rfl, hf, fra, ro, rp, hl, dk, fx, nx, h⟩ := h
    have R := rel_startD (N := N) hf fra ro rp dk fx nx j (by rw [rp.length, hl]; exact hj)
    refine ⟨ra, _, F, _, R, ?_⟩
    unfold dnM at h
    show Res.wp _ _ _
    cases eb : b ⟨.dsk true o r :: ds.map Slot.val ++ List.replicate j .no, row⟩ with
    | err =>
      rw [eb] at h
      exact h
    | exc y e' =>
      rw [eb] at h
      dsimp only at h
      cases ed : deskOf e'.sl with
      | none =>
        rw [ed] at h
        exact h.elim
      | some p =>
        rw [ed] at h
        intro cls d σ' F' H' s' R' hx
        obtain ⟨a1, a2⟩ := aftD_of R' s' ed
        exact h F' H' cls d a1 a2 hx
    | ok fl e' =>
      rw [eb] at h
      intro σ' F' H' s' R'
      cases fl with
      | nx =>
        dsimp only at h
        cases ed : deskOf e'.sl with
        | none =>
          rw [ed] at h
          exact h.elim
        | some p =>
          rw [ed] at h
          obtain ⟨a1, a2⟩ := aftD_of R' s' ed
          exact h F' H' .non a1 a2 .non
      | rt d =>
        dsimp only at h
        cases ed : deskOf e'.sl with
        | none =>
          rw [ed] at h
          exact h.elim
        | some p =>
          rw [ed] at h
          obtain ⟨a1, a2⟩ := aftD_of R' s' ed
          exact fun v rv => h F' H' v a1 a2 rv
      | bk => exact h.elim
      | ct => exact h.elim
end
/-! ### calls that lend -/
structure FnD (P : Program) (w : World) (K : PySem.W.Frag) (mg : Str → Option Value) (base : Heap) (x : Str) (k n : Nat) (g : DnM) : Prop where
  ex : ∃ f fd ps, FnOk P w K mg base (L2.CX P w) k f fd ps (spD w K n g) ∧ mg x = some (.ref f) ∧ PySem.W.keepIn K (.ref f) = true ∧ Binds K fd ps []
structure MtD (P : Program) (w : World) (K : PySem.W.Frag) (mg : Str → Option Value) (base : Heap) (m : Str) (k n : Nat) (g : DnM) : Prop where
  ex : ∃ f fd ps, FnOk P w K mg base (L2.CX P w) k f fd ps (spD w K n g) ∧ Meth K (He.ga K "Desk") m f ∧ Binds K fd ps []
def tMethS (C : Addr) (m : Str) (sp : Sp) (E : L2.St → XK) (ta : TE) (t : TA) : TE := fun σ H Q => ta σ H fun x H1 => ∃ a dx fs, x = .ref a ∧ H1 a = some (.ins C dx fs) ∧ fs.lookup m = none ∧ t σ H1 fun vs H2 => sp (x :: vs) H2 Q (E σ)
section
variable {X : Cx} {CX : CXT} {W : WX} {k k' n : Nat} {f C : Addr} {fd : FuncData} {ps : List Str} {sp : Sp} {E : L2.St → XK} {x m : Str} {p p1 pos apos : Pos} {e o : Expr} {es : List Expr} {ta : TE} {t : TA} {g : DnM} {r : M (List D)}
theorem pe_methSE {pl : Sem Bool} (he : PE X o ta) (c : Cls X.K C) (hm : Meth X.K C m f) (F : FnOk X.prog X.w X.K X.mg X.base CX k f fd ps sp) (hr : Room k X.A) (hb : Binds X.K fd ps []) (hx : ∀ σ, PassesAt CX X σ (E σ)) (ha : PA X (e :: es) t)
    (hst : starEach (e :: es) X.env = (false, eval e X.env) :: starEach es X.env) (hpl : (backTo pos (starEach es X.env)).any (·.1) = false)
    (ht : eval (.Call (.Attribute o m apos) (e :: es) [] pos) X.env = (do
      let ov ← eval o X.env
      standAt apos.atName
      let (f, first) ← holding [ov] (getMethod ov m pl)
      callWith pos f first (backTo pos (starEach (e :: es) X.env)) (backToKw pos (keywordEach [] X.env)))) :
    PE X (.Call (.Attribute o m apos) (e :: es) [] pos) (tMethS C m sp E ta t) := by
  refine ⟨fun pins s σ H Q I h => ?_⟩
  refine PySem.W.methodCall_KW (pl := pl) (thn (he.run pins s σ H _ I h) fun u s1 ⟨x, H1, I1, rx, a, dx, fs, ex, ea, l, q⟩ => ?_) ht
  subst ex
  obtain rfl : u = Value.ref a := rx
  refine getmeth_ok I1 ea c hm l ?_
  refine PySem.W.callWith_K (first := [.ref a]) (h₀ := X.base) I.ok.mod.kin hm.kp (thn (ha.run pos pins s1 σ H1 _ I1 q) fun us s2 ⟨vs, H2, I2, r, q2⟩ => ⟨I2.kIn, ?_⟩) hst hpl
  exact run_fnS (us := .ref a :: us) (vs := .ref a :: vs) F hr hb (hx σ) I2 (.cons rfl r) q2
theorem pe_methS0 {pl : Sem Bool} (he : PE X o ta) (c : Cls X.K C) (hm : Meth X.K C m f) (F : FnOk X.prog X.w X.K X.mg X.base CX k f fd ps sp) (hr : Room k X.A) (hb : Binds X.K fd ps []) (hx : ∀ σ, PassesAt CX X σ (E σ))
    (ht : eval (.Call (.Attribute o m apos) [] [] pos) X.env = (do
      let ov ← eval o X.env
      standAt apos.atName
      let (f, first) ← holding [ov] (getMethod ov m pl)
      callWith pos f first (backTo pos (starEach [] X.env)) (backToKw pos (keywordEach [] X.env)))) :
    PE X (.Call (.Attribute o m apos) [] [] pos) (tMethS C m sp E ta tNil) := by
  refine ⟨fun pins s σ H Q I h => ?_⟩
  refine PySem.W.methodCall_KW (pl := pl) (thn (he.run pins s σ H _ I h) fun u s1 ⟨x, H1, I1, rx, a, dx, fs, ex, ea, l, q⟩ => ?_) ht
  subst ex
  obtain rfl : u = Value.ref a := rx
  refine getmeth_ok I1 ea c hm l ?_
  exact PySem.W.callWith_K0 (first := [.ref a]) I1.kIn hm.kp (run_fnS (us := [.ref a]) (vs := [.ref a]) F hr hb (hx σ) I1 (.cons rfl .nil) q)
/-- what a lending call asks of the desk's name -/
theorem callD_read {n i : Nat} {σ : L2.St} {H : Hp} {Q : VK} (h : tG TV X.w X.K W (callD i g r) σ H Q) (hn : ∀ e ds e', r e = .ok ds e' → ds.length = n) : ∃ a dx v1 v2, σ[i]? = some (some (.ref a)) ∧ H a = some (.ins (He.ga X.K "Desk") dx (deskF v1 v2)) ∧
    tG TAs X.w X.K W r σ H fun vs H1 => spD X.w X.K n g (.ref a :: vs) H1 Q (WE W σ) := by
  obtain ⟨ra, HK, F, e, R, h⟩ := h
  unfold callD at h
  cases q0 : e.sl[i]? with
  | none => rw [q0] at h; exact h.elim
  | some s0 =>
  rw [q0] at h
  cases s0 with
  | dsk l0 o0 r0 =>
    obtain ⟨a, ea, ⟨dx, v1, v2, g1, _⟩, _⟩ := R.sl i _ q0
    refine ⟨a, dx, v1, v2, ea, g1, ra, HK, F, e, R, ?_⟩
    have h0 := wp_bind.mp h
    cases er : r e with
    | err =>
      rw [er] at h0
      exact h0
    | exc x e1 =>
      rw [er] at h0
      exact h0
    | ok ds e1 =>
      rw [er] at h0
      intro vs F1 H1 s1 R1 r1
      have h0 : Res.wp (match e1.sl[i]? with
        | some (.dsk l o q) => (match g o q ds e1.row with
          | .ret d o' q' row' => Res.ok d ⟨e1.sl.set i (.dsk l o' q'), row'⟩
          | .exc x o' q' row' => .exc x ⟨e1.sl.set i (.dsk l o' q'), row'⟩
          | .err => .err)
        | _ => .err) (okG TV X.w X.K ra HK F σ Q) (exW X.w X.K ra HK F W) := h0
      cases q1 : e1.sl[i]? with
      | none => rw [q1] at h0; exact h0.elim
      | some sl1 =>
      rw [q1] at h0
      cases sl1 with
      | dsk l o q =>
        dsimp only at h0
        obtain ⟨a2, ea2, dk, fa, ka, na, _⟩ := R1.sl i _ q1
        rw [ea] at ea2
        cases ea2
        refine ⟨ra, F1, a, vs, ds, o, q, e1.row, rfl, R1.fh, R1.fra, R1.row, r1, hn _ _ _ er, dk, fa, na, ?_⟩
        cases eg : g o q ds e1.row with
        | err =>
          rw [eg] at h0
          exact h0
        | ret d o' q' row' =>
          rw [eg] at h0
          exact fun F' H' v A dk' rv => h0 v F' H' (s1.trans A.f) (R1.dskAft q1 ea A dk') rv
        | exc x o' q' row' =>
          rw [eg] at h0
          exact fun F' H' cls dd A dk' hx => h0 cls dd σ F' H' (s1.trans A.f) (R1.dskAft q1 ea A dk') hx
      | _ => exact h0.elim
  | _ => exact h.elim
theorem pm_callD (i : Nat) (F : FnD X.prog X.w X.K X.mg X.base m k n g) (hr : Room k' X.A) (tk : Takes X W) (ha : PMA X W es r) (hn : ∀ e ds e', r e = .ok ds e' → ds.length = n) (hk : k ≤ k' := by decide) (hg : Gl X m := by rfl)
    (hN : X.N[i]? = some x := by rfl) (hv : Vis X.env.scope x := by first | exact Or.inl rfl | exact Or.inr (Or.inl rfl) | exact Or.inr (Or.inr rfl)) (hd : (x == ("__debug__" : Str)) = false := by decide) (hcd : (x == ("__classdict__" : Str)) = false := by decide)
    (hdb : (m == ("__debug__" : Str)) = false := by decide) (he : starEach (.Name x p1 :: es) X.env = (false, eval (.Name x p1) X.env) :: starEach es X.env := by rfl) (hpl : (backTo pos (starEach es X.env)).any (·.1) = false := by rfl) : PM X W (.Call (.Name m p) (.Name x p1 :: es) [] pos) (callD i g r) := by
  obtain ⟨f, fd, ps, F1, hm, kp, hb⟩ := F.ex
  refine PE.weaken (pe_callS F1 (hr.mono hk) hg hm kp hb (fun σ => passAt tk σ) (pa_cons (pe_var hN hv hd hcd) ha he) hdb he hpl) fun σ H Q h => ?_
  obtain ⟨a, dx, v1, v2, ea, _, hw⟩ := callD_read h hn
  exact ⟨.ref a, ea, hw⟩
theorem pm_methD {pl : Sem Bool} (C : DkC X.K) (i : Nat) (F : MtD X.prog X.w X.K X.mg X.base m k n g) (hr : Room k' X.A) (tk : Takes X W) (ha : PMA X W (e :: es) r) (hn : ∀ e ds e', r e = .ok ds e' → ds.length = n) (hk : k ≤ k' := by decide) (hl : ∀ v1 v2, (deskF v1 v2).lookup m = none := by intros; rfl)
    (hN : X.N[i]? = some x := by rfl) (hv : Vis X.env.scope x := by first | exact Or.inl rfl | exact Or.inr (Or.inl rfl) | exact Or.inr (Or.inr rfl)) (hd : (x == ("__debug__" : Str)) = false := by decide) (hcd : (x == ("__classdict__" : Str)) = false := by decide)
    (hst : starEach (e :: es) X.env = (false, eval e X.env) :: starEach es X.env := by rfl) (hpl : (backTo pos (starEach es X.env)).any (·.1) = false := by rfl)
    (ht : eval (.Call (.Attribute (.Name x p1) m apos) (e :: es) [] pos) X.env = (do
      let ov ← eval (.Name x p1) X.env
      standAt apos.atName
      let (f, first) ← holding [ov] (getMethod ov m pl)
      callWith pos f first (backTo pos (starEach (e :: es) X.env)) (backToKw pos (keywordEach [] X.env))) := by rfl) : PM X W (.Call (.Attribute (.Name x p1) m apos) (e :: es) [] pos) (callD i g r) := by
  obtain ⟨f, fd, ps, F1, hm, hb⟩ := F.ex
  refine PE.weaken (pe_methSE (pe_var hN hv hd hcd) C.c hm F1 (hr.mono hk) hb (fun σ => passAt tk σ) ha hst hpl ht) fun σ H Q h => ?_
  obtain ⟨a, dx, v1, v2, ea, eH, hw⟩ := callD_read h hn
  exact ⟨.ref a, ea, a, dx, _, rfl, eH, hl v1 v2, hw⟩
theorem pm_methD0 {pl : Sem Bool} (C : DkC X.K) (i : Nat) (F : MtD X.prog X.w X.K X.mg X.base m k 0 g) (hr : Room k' X.A) (tk : Takes X W) (hk : k ≤ k' := by decide) (hl : ∀ v1 v2, (deskF v1 v2).lookup m = none := by intros; rfl)
    (hN : X.N[i]? = some x := by rfl) (hv : Vis X.env.scope x := by first | exact Or.inl rfl | exact Or.inr (Or.inl rfl) | exact Or.inr (Or.inr rfl)) (hd : (x == ("__debug__" : Str)) = false := by decide) (hcd : (x == ("__classdict__" : Str)) = false := by decide)
    (ht : eval (.Call (.Attribute (.Name x p1) m apos) [] [] pos) X.env = (do
      let ov ← eval (.Name x p1) X.env
      standAt apos.atName
      let (f, first) ← holding [ov] (getMethod ov m pl)
      callWith pos f first (backTo pos (starEach [] X.env)) (backToKw pos (keywordEach [] X.env))) := by rfl) : PM X W (.Call (.Attribute (.Name x p1) m apos) [] [] pos) (callD i g (pureM [])) := by
  obtain ⟨f, fd, ps, F1, hm, hb⟩ := F.ex
  refine PE.weaken (pe_methS0 (pe_var hN hv hd hcd) C.c hm F1 (hr.mono hk) hb (fun σ => passAt tk σ) ht) fun σ H Q h => ?_
  obtain ⟨a, dx, v1, v2, ea, eH, ra, HK, F, e, R, hw⟩ := callD_read h nil_len
  exact ⟨.ref a, ea, a, dx, _, rfl, eH, hl v1 v2, hw [] F H (Same.refl F) R .nil⟩
end
end Mi

set_option Elab.async false
set_option linter.all false
set_option maxRecDepth 100000
set_option maxHeartbeats 4000000
/-! Mi, part M46: desks made, copied, set; properties; len. -/
namespace Mi
open PySem PySem.Spec PyProof.Rows L2
/-- a new desk that nobody knows yet -/
def TD : RT V (D × D) := fun w K ra HK σ e F H v p => ∃ a, v = .ref a ∧ DeskAt w K ra F H a p.1 p.2 ∧ F a = none ∧ HK.h a = none ∧ a ≠ ra ∧ NotIn e σ H a
def PMD (X : Cx) (W : WX) (e : Expr) (m : M (D × D)) : Prop := PE X e (tG TD X.w X.K W m)
def asgD (i : Nat) (m : M (D × D)) : M Fl := bindM m fun p => bindM (setM i (.dsk false p.1 p.2)) fun _ => pureM .nx
/-- what a Desk's __init__ keeps -/
def spDI (w : World) (K : PySem.W.Frag) : Sp := fun vs H Q _ => ∃ ra F x v d dx row, vs = [.ref x, v] ∧ Same F H ∧ F ra = none ∧ RowOk ra F H row ∧ Rep w K ra F v d ∧ H x = some (.ins (He.ga K "Desk") dx []) ∧ F x = none ∧ x ≠ ra ∧
  ∀ F' H', AftD ra x F H F' H' row → DeskAt w K ra F' H' x d (.tup [.tup []]) → Q .non H'
structure MkDk (P : Program) (w : World) (K : PySem.W.Frag) (mg : Str → Option Value) (base : Heap) (k : Nat) : Prop where
  ex : ∃ f fd ps, FnOk P w K mg base (L2.CX P w) k f fd ps (spDI w K) ∧ mg "Desk" = some (.ref (He.ga K "Desk")) ∧ Binds K fd ps [] ∧ Mk K (He.ga K "Desk") f
def mkD (m : M D) : M (D × D) := bindM m fun d => pureM (d, .tup [.tup []])
/-- what copy promises -/
def spC (w : World) (K : PySem.W.Frag) : Sp := fun vs H Q _ => ∃ ra F x o r row, vs = [.ref x] ∧ Same F H ∧ F ra = none ∧ RowOk ra F H row ∧ DeskAt w K ra F H x o r ∧ F x = none ∧ x ≠ ra ∧
  ∀ F' H' y, AftD ra x F H F' H' row → DeskAt w K ra F' H' x o r → H y = none → DeskAt w K ra F' H' y o r → F' y = none → y ≠ ra → Q (.ref y) H'
def cpyD (i : Nat) : M (D × D) := fun e => match e.sl[i]? with
  | some (.dsk _ o r) => .ok (o, r) e
  | _ => .err
structure CpD (P : Program) (w : World) (K : PySem.W.Frag) (mg : Str → Option Value) (base : Heap) (k : Nat) : Prop where
  ex : ∃ f fd ps, FnOk P w K mg base (L2.CX P w) k f fd ps (spC w K) ∧ Meth K (He.ga K "Desk") "copy" f ∧ Binds K fd ps []
section
variable {X : Cx} {W : WX} {k k' : Nat} {x : Str} {e : Expr} {m : M D} {md : M (D × D)} {p p1 p2 apos pos pos' : Pos}
theorem psm_setD (i : Nat) (he : PMD X W e md) (hN : X.N.Nodup) (hi : X.N[i]? = some x := by rfl) (hx : Loc X.env.scope x := by first | exact Or.inl rfl | exact Or.inr rfl) (hs : swapsWith e (some (.Name x pos')) pos.line X.env = pure false := by rfl)
    (hf : X.fn x = true ∨ X.env.scope.names.lookup x = some .local := by first | exact .inl rfl | exact .inr rfl | assumption) : PSM X W (.Assign [.Name x pos'] e pos) (asgD i md) := by
  refine PS.weaken (ps_set hN hi hx he hs hf) ?_
  rintro D' σ H ⟨ra, HK, F, e, R, h⟩
  unfold asgD at h
  refine stepS R h fun F1 e1 p v H1 s1 R1 r1 q1 => ?_
  obtain ⟨hl, q2⟩ := wp_setM q1
  obtain ⟨a, rfl, dk, fa, ka, na, nd⟩ := r1
  exact q2 _ F1 H1 (Same.refl F1) (R1.setC hl ⟨a, rfl, dk, fa, ka, na, fun z => by cases z⟩ fun p f => by
    rcases f with rfl | ⟨z, _⟩
    · exact nd
    · cases z)
theorem pm_newD (F0 : MkDk X.prog X.w X.K X.mg X.base k) (hr : Room k' X.A) (tk : Takes X W) (ha : PM X W e m) (hk : k + 1 ≤ k' := by decide) (hg : Gl X "Desk" := by rfl)
    (he : starEach [e] X.env = (false, eval e X.env) :: starEach [] X.env := by rfl) (hpl : (backTo pos (starEach [] X.env)).any (·.1) = false := by rfl) : PMD X W (.Call (.Name "Desk" p) [e] [] pos) (mkD m) := by
  obtain ⟨f, fd, ps, F1, hm, hb, M⟩ := F0.ex
  refine ⟨fun pins s σ H Q I h => ?_⟩
  refine wpAny_Call_Name_kw (ld_glob I hg hm ?_ (by decide))
  have key : tCons (tG TV X.w X.K W m) tNil σ H fun vs H1 => ∀ x dx, H1 x = none → H1 dx = none → dx ≠ x → spDI X.w X.K (.ref x :: vs) (upd (upd H1 dx (.own x)) x (.ins (He.ga X.K "Desk") dx [])) (fun v H2 => v = .non ∧ Q (.ref x) H2) (WE W σ) := by
    obtain ⟨ra, HK, F, e0, R, h⟩ := h
    unfold mkD at h
    have h0 := wp_bind.mp h
    refine ⟨ra, HK, F, e0, R, ?_⟩
    cases er : m e0 with
    | err =>
      rw [er] at h0
      exact h0
    | exc x e1 =>
      rw [er] at h0
      exact h0
    | ok d e1 =>
      rw [er] at h0
      intro v F1 H1 s1 R1 r1
      have r1 : Rep X.w X.K ra F1 v d := r1
      show ∀ x dx, _
      intro x dx hx hdx hne
      have fx : F1 x = none := R1.fh.free hx
      have fdx : F1 dx = none := R1.fh.free hdx
      have nra : x ≠ ra := fun z => R1.ra_some (by rw [← z]; exact hx)
      have ndx : dx ≠ ra := fun z => R1.ra_some (by rw [← z]; exact hdx)
      have hS : Same F1 (upd (upd H1 dx (.own x)) x (.ins (He.ga X.K "Desk") dx [])) := fun b u q => by
        rw [upd_ne (ne_of_none q fx), upd_ne (ne_of_none q fdx)]
        exact R1.fh b u q
      have rowS : RowOk ra F1 (upd (upd H1 dx (.own x)) x (.ins (He.ga X.K "Desk") dx [])) e1.row := R1.row.mono (Same.refl F1) (by rw [upd_ne nra.symm, upd_ne ndx.symm])
      have oldS : ∀ b u, H1 b = some u → (upd (upd H1 dx (.own x)) x (.ins (He.ga X.K "Desk") dx [])) b = some u := fun b u q => by
        rw [upd_ne (ne_of_none q hx), upd_ne (ne_of_none q hdx)]
        exact q
      refine ⟨ra, F1, x, v, d, dx, e1.row, rfl, hS, R1.fra, rowS, r1, upd_same, fx, nra, fun F' H' A dk => ⟨rfl, ?_⟩⟩
      have a1 : Aft ra F1 H1 F' H' e1.row := ⟨A.f, A.fh, A.fra, A.row, fun b u q nb => A.kept b u (oldS b u q) nb (fun z => by rw [z, hx] at q; cases q), fun b h1 h2 => A.pn b (by
        cases ez : H1 b with
        | none => exact absurd ez h1
        | some u =>
          rw [oldS b u ez]
          exact fun z => by cases z) h2⟩
      have R2 := R1.after a1
      have h1 : okG TD X.w X.K ra HK F σ Q (d, .tup [.tup []]) e1 := h0
      refine h1 (.ref x) F' H' (s1.trans A.f) R2 ⟨x, rfl, dk, A.pn x (by rw [upd_same]; exact fun z => by cases z) fx, R1.kh.free hx, nra, fun i sl b e7 e8 e9 hf => ?_⟩
      have ft : ∀ {p : Addr}, Foot H1 sl b p → F1 p = none ∧ HK.h p = none ∧ p ≠ ra ∧ H1 p ≠ none := fun h => R1.foot (i := i) e7 e8 e9 h
      have kb : H' b = H1 b := by
        have g0 := ft (p := b) (.inl rfl)
        cases ez : H1 b with
        | none => exact absurd ez g0.2.2.2
        | some u => exact a1.kept b u ez g0.2.2.1
      exact (ft ((Foot.congr kb).mp hf)).2.2.2 hx
  refine PySem.W.callWith_K (h₀ := X.base) I.ok.mod.kin M.kp (thn ((pa_cons ha pa_nil he).run pos pins s σ H _ I key) fun us s1 ⟨vs, H1, I1, r1, q⟩ => ⟨I1.kIn, ?_⟩) he hpl
  exact run_makeS (E := WE W) M F1 (hr.mono hk) hb (passAt tk σ) I1 r1 q
theorem pm_copyD {pl : Sem Bool} (C : DkC X.K) (i : Nat) (F0 : CpD X.prog X.w X.K X.mg X.base k) (hr : Room k' X.A) (tk : Takes X W) (hk : k ≤ k' := by decide)
    (hN : X.N[i]? = some x := by rfl) (hv : Vis X.env.scope x := by first | exact Or.inl rfl | exact Or.inr (Or.inl rfl) | exact Or.inr (Or.inr rfl)) (hd : (x == ("__debug__" : Str)) = false := by decide) (hcd : (x == ("__classdict__" : Str)) = false := by decide)
    (ht : eval (.Call (.Attribute (.Name x p1) "copy" apos) [] [] pos) X.env = (do
      let ov ← eval (.Name x p1) X.env
      standAt apos.atName
      let (f, first) ← holding [ov] (getMethod ov "copy" pl)
      callWith pos f first (backTo pos (starEach [] X.env)) (backToKw pos (keywordEach [] X.env))) := by rfl) : PMD X W (.Call (.Attribute (.Name x p1) "copy" apos) [] [] pos) (cpyD i) := by
  obtain ⟨f, fd, ps, F1, hm, hb⟩ := F0.ex
  refine PE.weaken (pe_methS0 (pe_var hN hv hd hcd) C.c hm F1 (hr.mono hk) hb (fun σ => passAt tk σ) ht) fun σ H Q h => ?_
  obtain ⟨ra, HK, F, e, R, h⟩ := h
  unfold cpyD at h
  cases q0 : e.sl[i]? with
  | none => rw [q0] at h; exact h.elim
  | some s0 =>
  rw [q0] at h
  cases s0 with
  | dsk l o r =>
    obtain ⟨a, ea, dk, fa, ka, na, me⟩ := R.sl i _ q0
    obtain ⟨dx, v1, v2, g1, g2⟩ := id dk
    have h1 : okG TD X.w X.K ra HK F σ Q (o, r) e := h
    refine ⟨.ref a, ea, a, dx, _, rfl, g1, rfl, ra, F, a, o, r, e.row, rfl, R.fh, R.fra, R.row, dk, fa, na, fun F' H' y A dk1 hy dk2 fy ny => ?_⟩
    have R2 := R.dskAft q0 ea A dk1
    have he : (⟨e.sl.set i (.dsk l o r), e.row⟩ : Env) = e := by
      have : e.sl.set i (.dsk l o r) = e.sl := by
        apply List.ext_getElem?
        intro j
        by_cases c : i = j
        · subst c
          rw [List.getElem?_set_self (List.getElem?_eq_some_iff.mp q0).1, q0]
        · rw [List.getElem?_set_ne c]
      rw [this]
    rw [he] at R2
    refine h1 (.ref y) F' H' A.f R2 ⟨y, rfl, dk2, fy, R.kh.free hy, ny, fun j sl b e7 e8 e9 hf => ?_⟩
    have ft : ∀ {p : Addr}, Foot H sl b p → F p = none ∧ HK.h p = none ∧ p ≠ ra ∧ H p ≠ none := fun h => R.foot (i := j) e7 e8 e9 h
    by_cases cb : b = a
    · rcases hf with z | ⟨z, z2⟩
      · rw [z, cb, g1] at hy
        cases hy
      · cases sl with
        | box l2 =>
          have hij : j = i := Classical.byContradiction fun c => R.sep j i _ _ b a a c e7 q0 e8 rfl e9 ea (.inl cb.symm) (.inl rfl)
          rw [hij, q0] at e7
          cases e7
        | _ => cases z
    · have kb : H' b = H b := by
        have g0 := ft (p := b) (.inl rfl)
        cases ez : H b with
        | none => exact absurd ez g0.2.2.2
        | some u => exact A.kept b u ez g0.2.2.1 cb
      exact (ft ((Foot.congr kb).mp hf)).2.2.2 hy
  | _ => exact h.elim
end
end Mi

set_option Elab.async false
set_option linter.all false
set_option maxRecDepth 100000
set_option maxHeartbeats 4000000
/-! Mi, part M47: Desk's __init__ and copy; properties; len. -/
namespace Mi
open PySem PySem.Spec PyProof.Rows L2
/-! ### properties, len -/
structure GtDk (P : Program) (w : World) (K : PySem.W.Frag) (mg : Str → Option Value) (base : Heap) (f : Str) (k : Nat) (g : DnM) : Prop where
  ex : ∃ p a fd ps, PropOf K (He.ga K "Desk") f p a ∧ FnOk P w K mg base (L2.CX P w) k a fd ps (spD w K 0 g) ∧ Binds K fd ps []
def propD (i : Nat) (g : DnM) : M D := fun e => match e.sl[i]? with
  | some (.dsk l o r) => (match g o r [] e.row with
    | .ret d o' r' row' => .ok d ⟨e.sl.set i (.dsk l o' r'), row'⟩
    | _ => .err)
  | _ => .err
theorem propD_read {X : Cx} {W : WX} {i : Nat} {g : DnM} {σ : L2.St} {H : Hp} {Q : VK} (h : tG TV X.w X.K W (propD i g) σ H Q) : ∃ a dx v1 v2, σ[i]? = some (some (.ref a)) ∧ H a = some (.ins (He.ga X.K "Desk") dx (deskF v1 v2)) ∧ spD X.w X.K 0 g [.ref a] H Q E0 := by
  obtain ⟨ra, HK, F, e, R, h⟩ := h
  unfold propD at h
  cases q0 : e.sl[i]? with
  | none => rw [q0] at h; exact h.elim
  | some s0 =>
  rw [q0] at h
  cases s0 with
  | dsk l o r =>
    obtain ⟨a, ea, dk, fa, ka, na, me⟩ := R.sl i _ q0
    obtain ⟨dx, v1, v2, g1, g2⟩ := id dk
    refine ⟨a, dx, v1, v2, ea, g1, ra, F, a, [], [], o, r, e.row, rfl, R.fh, R.fra, R.row, .nil, rfl, dk, fa, na, ?_⟩
    dsimp only at h
    cases eg : g o r [] e.row with
    | err => rw [eg] at h; exact h.elim
    | exc x o' r' row' => rw [eg] at h; exact h.elim
    | ret d o' r' row' =>
      rw [eg] at h
      have h1 : okG TV X.w X.K ra HK F σ Q d ⟨e.sl.set i (.dsk l o' r'), row'⟩ := h
      exact fun F' H' v A dk' rv => h1 v F' H' A.f (R.dskAft q0 ea A dk') rv
  | _ => exact h.elim
section
variable {X : Cx} {W : WX} {k k' : Nat} {x f : Str} {g : DnM} {e : Expr} {m : M D} {p p1 p2 p3 p4 p5 p6 apos pos : Pos}
theorem pm_propD (C : DkC X.K) (i : Nat) (G : GtDk X.prog X.w X.K X.mg X.base f k g) (hr : Room k' X.A) (hk : k + 1 ≤ k' := by decide) (hN : X.N[i]? = some x := by rfl) (hv : Vis X.env.scope x := by first | exact Or.inl rfl | exact Or.inr (Or.inl rfl) | exact Or.inr (Or.inr rfl)) (hd : (x == ("__debug__" : Str)) = false := by decide) (hcd : (x == ("__classdict__" : Str)) = false := by decide)
    (hab : attributeBase (.Name x p1) f X.env (eval (.Name x p1) X.env) = eval (.Name x p1) X.env := by rfl) : PM X W (.Attribute (.Name x p1) f pos) (propD i g) := by
  obtain ⟨p, a, fd, ps, hp, F1, hb⟩ := G.ex
  refine PE.weaken (pe_prop (pe_var hN hv hd hcd) C.c hp F1 (hr.mono hk) hb .nil passL hab) fun σ H Q h => ?_
  obtain ⟨a, dx, v1, v2, ea, eH, h⟩ := propD_read h
  exact ⟨.ref a, ea, a, dx, _, rfl, eH, h⟩
def lenDM (i : Nat) (g : DnM) : M D := bindM (propD i g) fun d => match d with
  | .int n => if 0 ≤ n ∧ n < 1000000 then pureM (.int n) else errM
  | _ => errM
def rLenD (w : World) (K : PySem.W.Frag) (g : DnM) : List V → Hp → VK → Prop := fun xs H Q => ∃ a dx fs, xs = [.ref a] ∧ H a = some (.ins (He.ga K "Desk") dx fs) ∧ spD w K 0 g [.ref a] H (fun v H' => ∃ n : Int, v = .int n ∧ 0 ≤ n ∧ n < 2 ^ 63 ∧ Q (.int n) H') E0
theorem call_lenD (F : MtD X.prog X.w X.K X.mg X.base "__len__" k 0 g) (hr : Room (k + 1) X.A) : CallR X (.builtin "len") (rLenD X.w X.K g) := by
  obtain ⟨f, fd, ps, FO, hm, hb⟩ := F.ex
  intro pins s σ H xs us Q I rs h
  obtain ⟨a, dx, fs, rfl, ha, hsp⟩ := h
  obtain ⟨u, rfl, ru⟩ := rs.one
  cases ru
  obtain ⟨mA, J, _⟩ := ins_get I.hok ha
  obtain ⟨od, J, _⟩ := J.look
  obtain ⟨m, hF⟩ := I.fr
  refine PySem.W.len_K hF I.ok.mod.kin J hm.at_ hm.fn ?_
  have hl := FO.len _ _ _ _ hsp
  refine wpAny_call (codeAny_mono (FO.run X.A.in1 X.stack s H ⟨[.ref a], []⟩ [.ref a] [.ref a] _ E0 hr.in1 I.env0.in1 (by
    have := hb s [.ref a] I.kIn (by simpa using hl)
    simpa using this) (.cons rfl .nil) hsp) fun r s' hq => ?_)
  cases r with
  | error e => exact passL pins σ H s e s' I hq
  | ok fl =>
    cases fl with
    | ret w =>
      obtain ⟨z, H', I', rz, n, ez, n0, n1, q⟩ := I.after hq
      subst ez
      obtain ⟨t, rfl⟩ := (show ∃ t, w = Value.int n t from rz)
      exact ⟨⟨n0, n1⟩, .int n, H', I'.tok _, ⟨_, rfl⟩, q⟩
    | next => exact False.elim hq
    | brk => exact False.elim hq
    | cont => exact False.elim hq
theorem pm_lenD (i : Nat) (F : MtD X.prog X.w X.K X.mg X.base "__len__" k 0 g) (hr : Room k' X.A) (hml : X.mg "len" = none) (hk : k + 1 ≤ k' := by decide) (hg : Gl X "len" := by rfl) (hN : X.N[i]? = some x := by rfl) (hv : Vis X.env.scope x := by first | exact Or.inl rfl | exact Or.inr (Or.inl rfl) | exact Or.inr (Or.inr rfl)) (hd : (x == ("__debug__" : Str)) = false := by decide) (hcd : (x == ("__classdict__" : Str)) = false := by decide)
    (hse : starEach [.Name x p1] X.env = (false, eval (.Name x p1) X.env) :: starEach [] X.env := by rfl) (hpl : (backTo pos (starEach [] X.env)).any (·.1) = false := by rfl) : PM X W (.Call (.Name "len" p) [.Name x p1] [] pos) (lenDM i g) := by
  refine PE.weaken (pe_callB (call_lenD F (hr.mono hk)) hg hml PySem.boot_len (pa_cons (pe_var hN hv hd hcd) pa_nil hse) (by decide) (by decide) hse hpl) fun σ H Q h => ?_
  have h1 : tG TV X.w X.K W (propD i g) σ H fun v H' => ∃ n : Int, v = .int n ∧ 0 ≤ n ∧ n < 2 ^ 63 ∧ Q (.int n) H' := by
    obtain ⟨ra, HK, F, e, R, h⟩ := h
    unfold lenDM at h
    refine stepG R h fun F1 e1 d v H1 s1 R1 r1 q1 => ?_
    have r1 : Rep X.w X.K ra F1 v d := r1
    cases d with
    | int n =>
      cases r1
      dsimp only at q1
      by_cases c : 0 ≤ n ∧ n < 1000000
      · rw [if_pos c] at q1
        exact ⟨n, rfl, c.1, by have := c.2; omega, q1 _ F1 H1 (Same.refl F1) R1 (.int n)⟩
      · rw [if_neg c] at q1
        exact q1.elim
    | _ => exact q1.elim
  obtain ⟨a, dx, v1, v2, ea, eH, h2⟩ := propD_read h1
  exact ⟨.ref a, ea, a, dx, _, rfl, eH, h2⟩
/-! ### Desk's __init__ -/
def tDI (w : World) (K : PySem.W.Frag) : TS := fun D' σ H => ∃ ra HK F e x v d dx, σ[0]? = some (some (.ref x)) ∧ σ[1]? = some (some v) ∧ H x = some (.ins (He.ga K "Desk") dx []) ∧ Rel w K ra (pinD HK x (.ins (He.ga K "Desk") dx [])) F e σ H ∧ Rep w K ra F v d ∧
  ∀ F' e' H' v2, Same F F' → Rel w K ra (pinD HK x (.ins (He.ga K "Desk") dx (deskF v v2))) F' e' σ H' → e'.row = e.row → Rep w K ra F' v2 (.tup [.tup []]) → D'.nx σ H'
theorem pss_deskInit {self rule : Str} {s2 : Stmt} (C : DkC X.K) (hm : PM X W e m) (hme : ∀ e, m e = .ok (.tup [.tup []]) e) (h0 : X.N[0]? = some self := by rfl) (h1 : X.N[1]? = some rule := by rfl) (hv0 : Vis X.env.scope self := by first | exact Or.inl rfl | exact Or.inr (Or.inl rfl) | exact Or.inr (Or.inr rfl)) (hv1 : Vis X.env.scope rule := by first | exact Or.inl rfl | exact Or.inr (Or.inl rfl) | exact Or.inr (Or.inr rfl))
    (hd0 : (self == ("__debug__" : Str)) = false := by decide) (hcd0 : (self == ("__classdict__" : Str)) = false := by decide) (hd1 : (rule == ("__debug__" : Str)) = false := by decide) (hcd1 : (rule == ("__classdict__" : Str)) = false := by decide)
    (hs1 : swapsWith (.Name rule p1) (some (.Attribute (.Name self p2) "own" p3)) p4.line X.env = pure false := by rfl) (hs2 : swapsWith e (some (.Attribute (.Name self p5) "rows" p6)) pos.line X.env = pure false := by rfl) :
    PSs X [.Assign [.Attribute (.Name self p2) "own" p3] (.Name rule p1) p4, .Assign [.Attribute (.Name self p5) "rows" p6] e pos] (tDI X.w X.K) := by
  refine PSs.weaken (pss_cons (ps_fld (pe_var h0 hv0 hd0 hcd0) (pe_var h1 hv1 hd1 hcd1) hs1) (pss_one (ps_fld (pe_var h0 hv0 hd0 hcd0) hm hs2))) ?_
  rintro D' σ H ⟨ra, HK, F, e0, x, v, d, dx, hx0, hx1, hHx, R, rv, q⟩
  refine ⟨v, hx1, .ref x, hx0, x, _, dx, [], rfl, hHx, C.c, C.own, (by decide : (0 : Nat) < 1000), ?_⟩
  have ep : putF "own" v [] = [(("own" : Str), v)] := rfl
  rw [ep]
  have R1 := R.repin (u' := .ins (He.ga X.K "Desk") dx [("own", v)])
  refine ⟨ra, _, F, e0, R1, ?_⟩
  rw [hme e0]
  intro v2 F2 H2 s2 R2 rv2
  have hx2 : H2 x = some (.ins (He.ga X.K "Desk") dx [("own", v)]) := R2.kh x _ (by show upd HK.h x _ x = _; exact upd_same)
  refine ⟨.ref x, hx0, x, _, dx, _, rfl, hx2, C.c, C.rows, (by decide : (1 : Nat) < 1000), ?_⟩
  have ep2 : putF "rows" v2 [(("own" : Str), v)] = deskF v v2 := rfl
  rw [ep2]
  exact q F2 e0 _ v2 s2 R2.repin rfl rv2
end
section
variable {P : Program} {w : World} {K : PySem.W.Frag} {mg : Str → Option Value} {base : Heap} {x qual : Str} {params : Arguments} {body : List Stmt} {scope : Scope} {kws : List (Str × V)} {f : Addr} {fd : FuncData}
theorem mkDk_ok {N ps : List Str} {k : Nat} (FD : FunD K x qual params body scope [] kws f fd) (S : FnScope N ps scope) (hm : mg "Desk" = some (.ref (He.ga K "Desk"))) (hb : Binds K fd ps []) (hmk : Mk K (He.ga K "Desk") f) (hn : ps.length = 2) (hN : N.length = 2)
    (hbody : ∀ (cdv : Value) (A : Around) (outer : List PySem.Env) (s : Shared) (H : Hp) (E : XK), Room k (A.deeper (envOfC qual scope s.heap.objs.size f cdv)) → Takes (cxOf (L2.CX P w) P w K mg base N qual scope f cdv A outer s H E) (fun cls d _ H' => E cls d H') →
      PSs (cxOf (L2.CX P w) P w K mg base N qual scope f cdv A outer s H E) body (tDI w K)) : MkDk P w K mg base (k + 1) := by
  refine ⟨f, fd, ps, FD.ok S (fun vs H Q E h => ?_) (fun cdv A outer s H vs Q E hr h => ?_), hm, hb, hmk⟩
  · obtain ⟨ra, F, y, v, d, dx, row, rfl, _⟩ := h
    rw [hn]
    rfl
  · have tk : Takes (cxOf (L2.CX P w) P w K mg base N qual scope f cdv A outer s H E) (fun cls d _ H' => E cls d H') := takes_of rfl rfl rfl rfl
    refine ⟨_, hbody cdv A outer s H E hr tk, ?_⟩
    obtain ⟨ra, F, y, v, d, dx, row, rfl, hf, fra, ro, rv, hy, fy, ny, h⟩ := h
    have es : L2.start N [.ref y, v] = [some (.ref y), some v] := by
      unfold L2.start
      rw [hN]
      rfl
    have hup : ∀ {u : HO} {b : Addr}, b ≠ y → upd (kpD H F ra y).h y u b = (if b = ra ∨ b = y then none else H b) := fun {u b} hb => upd_ne hb
    have R : Rel w K ra (pinD (kpD H F ra y) y (.ins (He.ga K "Desk") dx [])) F ⟨[.no, .val d], row⟩ [some (.ref y), some v] H := by
      refine ⟨hf, fun b u q => ?_, rfl, fun i s hi => ?_, fun i j s s' a a' p hij h1 h2 c1 c2 => ?_, ro, fra, ?_, fun b hb => ?_⟩
      · have q : upd (kpD H F ra y).h y (.ins (He.ga K "Desk") dx []) b = some u := q
        by_cases c : b = y
        · rw [c, upd_same] at q
          cases q
          rw [c]
          exact hy
        · rw [hup c] at q
          by_cases c2 : b = ra ∨ b = y
          · rw [if_pos c2] at q; cases q
          · rw [if_neg c2] at q; exact q
      · match i, hi with
        | 0, hi =>
          cases hi
          trivial
        | 1, hi =>
          cases hi
          exact ⟨v, rfl, rv⟩
      · match i, h1 with
        | 0, h1 => cases h1; cases c1
        | 1, h1 => cases h1; cases c1
      · show upd (kpD H F ra y).h y _ ra = none
        rw [hup (Ne.symm ny), if_pos (.inl rfl)]
      · rcases hb with hb | rfl
        · have hb : H b ≠ none ∧ F b = none ∧ b ≠ ra ∧ b ≠ y := hb
          refine ⟨?_, hb.2.1⟩
          show upd (kpD H F ra y).h y _ b ≠ none
          rw [hup hb.2.2.2, if_neg fun z => z.elim hb.2.2.1 hb.2.2.2]
          exact hb.1
        · refine ⟨?_, fy⟩
          show upd (kpD H F ra b).h b _ b ≠ none
          rw [upd_same]
          exact fun z => by cases z
    rw [es]
    refine ⟨ra, _, F, _, y, v, d, dx, rfl, rfl, hy, R, rv, fun F' e' H' v2 s' R' hrow rv2 => ?_⟩
    have hy' : H' y = some (.ins (He.ga K "Desk") dx (deskF v v2)) := R'.kh y _ (by show upd (kpD H F ra y).h y _ y = _; exact upd_same)
    have fy' : F' y = none := (R'.pn y (.inr rfl)).2
    refine h F' H' ⟨s', R'.fh, R'.fra, (by have := R'.row; rw [hrow] at this; exact this), fun b u q hb hbx => R'.kh b u ?_, fun b h1 h2 => ?_⟩ ⟨dx, v, v2, hy', rv.mono s', rv2⟩
    · show upd (kpD H F ra y).h y _ b = some u
      rw [hup hbx, if_neg fun z => z.elim hb hbx]
      exact q
    · by_cases c : b = ra
      · rw [c]; exact R'.fra
      · by_cases c2 : b = y
        · rw [c2]; exact fy'
        · exact (R'.pn b (.inl ⟨h1, h2, c, c2⟩)).2
/-! ### copy -/
theorem cpD_ok {N ps : List Str} {k : Nat} {m1 m2 : M Fl} {b1 b2 : Stmt} {fnd : Str} {p3 p4 : Pos} (FD : FunD K x qual params [b1, b2, .Return (some (.Name fnd p3)) p4] scope [] kws f fd) (S : FnScope N ps scope) (hmt : Meth K (He.ga K "Desk") "copy" f) (hb : Binds K fd ps []) (hn : ps.length = 1) (hN : N.length = 2) (hN1 : N[1]? = some fnd) (hd : (fnd == ("__debug__" : Str)) = false) (hcd : (fnd == ("__classdict__" : Str)) = false)
    (hv : Vis scope fnd) (h1 : ∀ o r row, m1 ⟨[.dsk true o r, .no], row⟩ = .ok .nx ⟨[.dsk true o r, .dsk false o (.tup [.tup []])], row⟩) (h2 : ∀ o r row, m2 ⟨[.dsk true o r, .dsk false o (.tup [.tup []])], row⟩ = .ok .nx ⟨[.dsk true o r, .dsk false o r], row⟩)
    (hbody : ∀ (cdv : Value) (A : Around) (outer : List PySem.Env) (s : Shared) (H : Hp) (E : XK), Room k (A.deeper (envOfC qual scope s.heap.objs.size f cdv)) → Takes (cxOf (L2.CX P w) P w K mg base N qual scope f cdv A outer s H E) (fun cls d _ H' => E cls d H') →
      PSM (cxOf (L2.CX P w) P w K mg base N qual scope f cdv A outer s H E) (fun cls d _ H' => E cls d H') b1 m1 ∧ PSM (cxOf (L2.CX P w) P w K mg base N qual scope f cdv A outer s H E) (fun cls d _ H' => E cls d H') b2 m2) : CpD P w K mg base (k + 1) := by
  refine ⟨f, fd, ps, FD.ok S (fun vs H Q E h => ?_) (fun cdv A outer s H vs Q E hr h => ?_), hmt, hb⟩
  · obtain ⟨ra, F, y, o, r, row, rfl, _⟩ := h
    rw [hn]
    rfl
  · have tk : Takes (cxOf (L2.CX P w) P w K mg base N qual scope f cdv A outer s H E) (fun cls d _ H' => E cls d H') := takes_of rfl rfl rfl rfl
    obtain ⟨g1, g2⟩ := hbody cdv A outer s H E hr tk
    refine ⟨_, pss_cons g1 (pss_cons g2 (pss_one (ps_ret (pe_var (i := 1) hN1 hv hd hcd)))), ?_⟩
    obtain ⟨ra, F, y, o, r, row, rfl, hf, fra, ro, dk, fy, ny, h⟩ := h
    have R := rel_startD (N := N) (us := []) (ds := []) hf fra ro .nil dk fy ny 1 (by rw [hN]; rfl)
    refine ⟨ra, _, F, _, R, ?_⟩
    have e1 : m1 ⟨.dsk true o r :: ([] : List D).map Slot.val ++ List.replicate 1 .no, row⟩ = .ok .nx ⟨[.dsk true o r, .dsk false o (.tup [.tup []])], row⟩ := h1 o r row
    rw [e1]
    intro σ1 F1 H1 s1 R1
    refine ⟨ra, _, F1, _, R1, ?_⟩
    rw [h2 o r row]
    intro σ2 F2 H2 s2 R2
    obtain ⟨A2, dk2⟩ := aftD_of R2 (s1.trans s2) rfl
    obtain ⟨z, ez, dkz, fz, kz, nz, _⟩ := R2.sl 1 (.dsk false o r) rfl
    obtain ⟨y2, ey, _, _, _, _, me⟩ := R2.sl 0 (.dsk true o r) rfl
    have eme : V.ref y = .ref y2 := me rfl
    cases eme
    have hzy : z ≠ y := fun c => R2.sep 0 1 _ _ y z y (by decide) (by rfl : [Slot.dsk true o r, .dsk false o r][0]? = some (.dsk true o r)) (by rfl : [Slot.dsk true o r, .dsk false o r][1]? = some (.dsk false o r)) rfl rfl ey ez (.inl rfl) (.inl c.symm)
    have kz : (if z = ra ∨ z = y then none else H z) = none := kz
    rw [if_neg fun c => c.elim nz hzy] at kz
    exact ⟨.ref z, ez, h F2 H2 z A2 dk2 kz dkz fz nz⟩
end
end Mi

set_option Elab.async false
set_option linter.all false
set_option maxRecDepth 100000
set_option maxHeartbeats 4000000
/-! Mi, part M48: a desk and a value set at once. -/
namespace Mi
open PySem PySem.Spec PyProof.Rows L2
def parD (i j : Nat) (md : M (D × D)) (m : M D) : M Fl := bindM md fun p => bindM m fun d => bindM (setM j (.val d)) fun _ => bindM (setM i (.dsk false p.1 p.2)) fun _ => pureM .nx
section
variable {X : Cx} {W : WX} {m : M D} {md : M (D × D)}
theorem psm_parDC (i j : Nat) {x y : Str} {a b : Expr} {px py pt pos : Pos} {kt k2 pt2} (ha : PMD X W a md) (hb : PM X W b m) (hN : X.N.Nodup) (hc : X.calm = true := by rfl) (hi : X.N[i]? = some x := by rfl) (hj : X.N[j]? = some y := by rfl) (hij : i ≠ j := by decide)
    (hx : Loc X.env.scope x := by first | exact Or.inl rfl | exact Or.inr rfl) (hy : Loc X.env.scope y := by first | exact Or.inl rfl | exact Or.inr rfl) (fx0 : X.fn x = true ∨ X.env.scope.names.lookup x = some .local := by first | exact .inl rfl | exact .inr rfl | assumption) (fy0 : X.fn y = true ∨ X.env.scope.names.lookup y = some .local := by first | exact .inl rfl | exact .inr rfl | assumption)
    (hw : swappedStores [.Tuple [.Name x px, .Name y py] kt pt] (.Tuple [a, b] k2 pt2) X.env = pure none := by rfl)
    (hs : swapsWithSole [.Tuple [.Name x px, .Name y py] kt pt] (.Tuple [a, b] k2 pt2) pos.line X.env = pure false := by rfl)
    (ha1 : (assignEach [.Name x px, .Name y py] X.env).map (·.2) = assign (.Name x px) X.env :: (assignEach [.Name y py] X.env).map (·.2) := by rfl) (ha2 : (assignEach [.Name y py] X.env).map (·.2) = assign (.Name y py) X.env :: (assignEach [] X.env).map (·.2) := by rfl)
    (hn : (assignEach [.Name x px, .Name y py] X.env).length = 2 := by rfl) (hst : (assignEach [.Name x px, .Name y py] X.env).findIdx? (·.1) = none := by rfl)
    (h1 : (assignEach [.Tuple [.Name x px, .Name y py] kt pt] X.env).map (·.2) = [assign (.Tuple [.Name x px, .Name y py] kt pt) X.env] := by rfl)
    (he : starEach [a, b] X.env = (false, eval a X.env) :: starEach [b] X.env := by rfl) (he2 : starEach [b] X.env = (false, eval b X.env) :: starEach [] X.env := by rfl) : PSM X W (.Assign [.Tuple [.Name x px, .Name y py] kt pt] (.Tuple [a, b] k2 pt2) pos) (parD i j md m) := by
  refine PS.weaken (ps_asg (pe_tup (pa_cons ha (pa_cons hb pa_nil he2) he)) (pg_tup hc (pgs_cons (pg_name hN hi hx fx0) (pgs_cons (pg_name hN hj hy fy0) pgs_nil ha2) ha1) hn hst) hs hw h1) fun D' σ H h => ?_
  obtain ⟨ra, HK, F, e, R, h⟩ := h
  unfold parD at h
  have hp : ∀ b, HK.pin b → HK.h b ≠ none := fun b hb => (R.pn b hb).1
  show tG TD X.w X.K W md σ H _
  refine stepS R h fun F1 e1 p v H1 s1 R1 r1 q1 => ?_
  obtain ⟨x, rfl, dk, fx, kx, nx, nd⟩ := r1
  obtain ⟨dx, v1, v2, hx1, g1, g2⟩ := id dk
  have R3 := R1.pinAt hx1 fx kx nx nd
  show tG TV X.w X.K W m σ H1 _
  refine ⟨ra, _, F1, _, R3, ?_⟩
  have q2' := wp_bind.mp q1
  cases em : m e1 with
  | err =>
    rw [em] at q2'
    exact q2'.elim
  | exc y e3 =>
    rw [em] at q2'
    exact fun cls dd σ' F' H' s' R' hx' => q2' cls dd σ' F' H' s' (R'.unpin kx hp).1 hx'
  | ok vd e3 =>
    rw [em] at q2'
    intro yv F2 H2 s2 R4 r4
    obtain ⟨R6, f6, n6, h6, nd6⟩ := R4.unpin kx hp
    refine ⟨by show 2 ≤ sizeLine; decide, fun ad had => ⟨ad, [.ref x, yv], rfl, SqT.of upd_same, rfl, .ref x, [yv], rfl, yv, [], rfl, rfl, ?_⟩⟩
    obtain ⟨hj3, q3⟩ := wp_setM q2'
    have R7 := R6.setVal hj3 r4
    have hjσ : j < σ.length := by rw [← R6.len]; exact hj3
    have nd7 : NotIn { e3 with sl := e3.sl.set j (.val vd) } (σ.set j (some yv)) H2 x := by
      intro l s a' hl hc hs hf
      have hl' : (e3.sl.set j (.val vd))[l]? = some s := hl
      by_cases z : j = l
      · subst z
        rw [List.getElem?_set_self hj3] at hl'
        cases hl'
        cases hc
      · rw [List.getElem?_set_ne z] at hl' hs
        exact nd6 l s a' hl' hc hs hf
    obtain ⟨hi4, q4⟩ := wp_setM q3
    have dk2 : DeskAt X.w X.K ra F2 H2 x p.1 p.2 := ⟨dx, v1, v2, h6, Rep.mono s2 g1, Rep.mono s2 g2⟩
    have R8 := R7.setC (s := .dsk false p.1 p.2) (a := x) hi4 ⟨x, rfl, dk2, f6, kx, nx, fun z => by cases z⟩ fun p f => by
      rcases f with rfl | ⟨z, _⟩
      · exact nd7
      · cases z
    rw [List.set_comm _ _ hij]
    exact q4 _ F2 _ s2 (R8.grow had _)
end
end Mi

set_option Elab.async false
set_option linter.all false
set_option maxRecDepth 100000
set_option maxHeartbeats 0
namespace Cut
open PySem Mi
noncomputable section
def errs : List Str := ["CutError", "BadSigns", "BadWindow", "BadLengths", "BadText", "BadWords"]
def m_D___len__ : M Fl := retM (op1M (mapM' (sliceM (mapM' (dskR 0) Ref.val) (partM (pureM (.int 1))) (pureM none)) Ref.val) lenF)
def F_D___len__ : DnM := dnM 0 m_D___len__
def m_step_of : M Fl := seqM (asgG (readM 1) (gTupM 2 (gsCons (gN 3) (gsCons (gN 4) (gsNil)))))
      (seqM (asgM 3 (sliceM (mapM' (tupM (starM (refM 3) (consM (readM 2) (pureM [])))) Ref.val) (partM (negM (op1M (refM 0) (fldF 1)))) (pureM none)))
      (seqM (augM 4 (pureM (.int 1)) (intF (fun _ _ => true) (· + ·)))
      (seqM (asgM 5 (orV (andV (op2M (refM 4) (mapM' (op1M (refM 0) (fldF 3)) Ref.val) geF) (op2M (refM 3) (mapM' (op1M (refM 0) (fldF 2)) Ref.val) (inF false))) (op2M (refM 4) (mapM' (op1M (refM 0) (fldF 4)) Ref.val) eqF)))
      (seqM (iteM (testM (readM 5))
      (retM (tupM (consM (tupM (consM (readM 3) (consM (pureM (.int 0)) (pureM [])))) (consM (pureM (.bl true)) (pureM [])))))
      (nxM))
      (retM (tupM (consM (tupM (consM (readM 3) (consM (iteM (testM (op1M (mapM' (op1M (refM 0) (fldF 4)) Ref.val) notNF)) (readM 4) (opLM (consM (readM 4) (consM (op1M (refM 0) (fldF 3)) (pureM []))) min2F)) (pureM [])))) (consM (pureM (.bl false)) (pureM [])))))))))
def F_step_of : FnM := fnM 3 m_step_of
def b_cuts_of_1 : M Fl := seqM (asgG (callM F_step_of (consM (readM 0) (consM (readM 3) (consM (readM 5) (pureM []))))) (gTupM 2 (gsCons (gN 3) (gsCons (gN 6) (gsNil)))))
      (iteM (testM (readM 6))
      (appM 2 (op2M (refM 4) (mapM' (pureM (.int 1)) Ref.val) addF))
      (nxM))
def m_cuts_of : M Fl := seqM (parM [2, 3] (consO (lstM (pureM [])) (consV (pureM (.tup [.tup [], .int 0])) (pureM []))))
      (seqM (forL (listM (consM (readM 1) (pureM [])) enum1D) (gTupM 2 (gsCons (gN 4) (gsCons (gN 5) (gsNil))))
      (b_cuts_of_1))
      (retM (readM 2)))
def F_cuts_of : FnM := fnM 5 m_cuts_of
def m_D_places : M Fl := retM (callM F_cuts_of (consM (dskO 0) (consM (op2M (mapM' (dskR 0) Ref.val) (mapM' (negM (pureM (.int 1))) Ref.val) ixF) (pureM []))))
def F_D_places : DnM := dnM 0 m_D_places
def m_D_rule : M Fl := retM (dskO 0)
def F_D_rule : DnM := dnM 0 m_D_rule
def m_D_text : M Fl := retM (op2M (mapM' (dskR 0) Ref.val) (mapM' (negM (pureM (.int 1))) Ref.val) ixF)
def F_D_text : DnM := dnM 0 m_D_text
def m_D_undo : M Fl := seqM (iteM (testM (op2M (mapM' (op1M (mapM' (dskR 0) Ref.val) lenF) Ref.val) (mapM' (pureM (.int 1)) Ref.val) eqF))
      (retM (pureM (.bl false)))
      (nxM))
      (seqM (dskSet 0 (sliceM (mapM' (dskR 0) Ref.val) (pureM none) (partM (negM (pureM (.int 1))))))
      (retM (pureM (.bl true))))
def F_D_undo : DnM := dnM 0 m_D_undo
def m_D_waits : M Fl := seqM (asgM 1 (giveM (lstM (consM (pureM (.int 0)) (starM (mapM' (callD 0 F_D_places (pureM [])) Ref.val) (pureM []))))))
      (retM (sliceM (mapM' (op2M (mapM' (dskR 0) Ref.val) (mapM' (negM (pureM (.int 1))) Ref.val) ixF) Ref.val) (partM (op2M (refM 1) (mapM' (negM (pureM (.int 1))) Ref.val) ixF)) (pureM none)))
def F_D_waits : DnM := dnM 1 m_D_waits
def b__law_cuts_1 : M Fl := seqM (asgM 5 (andV (op2M (mapM' (op2M (refM 2) (refM 3) subF) Ref.val) (mapM' (op2M (refM 0) (mapM' (pureM (.int 3)) Ref.val) ixF) Ref.val) geF) (andV (op2M (refM 2) (mapM' (op2M (refM 0) (mapM' (pureM (.int 1)) Ref.val) ixF) Ref.val) geF) (op2M (mapM' (sliceM (refM 1) (partM (op2M (refM 2) (mapM' (op2M (refM 0) (mapM' (pureM (.int 1)) Ref.val) ixF) Ref.val) subF)) (partM (readM 2))) Ref.val) (mapM' (op2M (refM 0) (mapM' (pureM (.int 2)) Ref.val) ixF) Ref.val) (inF false)))))
      (iteM (orT (testM (readM 5)) (testM (op2M (mapM' (op2M (refM 2) (refM 3) subF) Ref.val) (mapM' (op2M (refM 0) (mapM' (pureM (.int 4)) Ref.val) ixF) Ref.val) eqF)))
      (seqM (appM 4 (readM 2))
      (asgM 3 (readM 2)))
      (nxM))
def m__law_cuts : M Fl := seqM (parM [3, 4] (consV (pureM (.int 0)) (consO (lstM (pureM [])) (pureM []))))
      (seqM (forL (listM (consM (pureM (.int 1)) (consM (op2M (mapM' (op1M (refM 1) lenF) Ref.val) (mapM' (pureM (.int 1)) Ref.val) addF) (pureM []))) range2D) (gN 2)
      (b__law_cuts_1))
      (retM (readM 4)))
def F__law_cuts : FnM := fnM 4 m__law_cuts
def m_is_from : M Fl := retM (andV (op1M (refM 0) (isiF "int")) (andV (notV (op1M (refM 0) (isiF "bool"))) (chainM (fun i j => decide (i ≤ j)) (fun i j => decide (i ≤ j)) (readM 1) (readM 0) (readM 2))))
def F_is_from : FnM := fnM 0 m_is_from
def m_check_lengths : M Fl := seqM (iteM (notT (testM (callM F_is_from (consM (readM 0) (consM (pureM (.int 1)) (consM (pureM (.int 6)) (pureM [])))))))
      (raiseM "BadLengths")
      (nxM))
      (iteM (andT (testM (op1M (refM 1) notNF)) (notT (testM (callM F_is_from (consM (readM 1) (consM (readM 0) (consM (pureM (.int 8)) (pureM []))))))))
      (raiseM "BadLengths")
      (nxM))
def F_check_lengths : FnM := fnM 0 m_check_lengths
def m_check_shape : M Fl := seqM (iteM (notT (testM (callM F_is_from (consM (readM 0) (consM (pureM (.int 2)) (consM (pureM (.int 3)) (pureM [])))))))
      (raiseM "BadSigns")
      (nxM))
      (iteM (notT (testM (callM F_is_from (consM (readM 1) (consM (pureM (.int 1)) (consM (pureM (.int 3)) (pureM [])))))))
      (raiseM "BadWindow")
      (nxM))
def F_check_shape : FnM := fnM 0 m_check_shape
def c_is_word_1 : M D := callM F_is_from (consM (readM 3) (consM (pureM (.int 0)) (consM (op2M (refM 0) (mapM' (pureM (.int 1)) Ref.val) subF) (pureM []))))
def m_is_word : M Fl := retM (andV (op1M (refM 2) (isiF "tuple")) (andV (op2M (mapM' (op1M (refM 2) lenF) Ref.val) (refM 1) eqF) (op1M (mapM' (giveM (lcM (walkM (readM 2)) (gN 3) (pureM true) (c_is_word_1) [3])) Ref.val) allF)))
def F_is_word : FnM := fnM 1 m_is_word
def b_Rule_1 : M Fl := iteM (orT (notT (testM (callM F_is_word (consM (readM 1) (consM (readM 2) (consM (readM 7) (pureM []))))))) (andT (testM (op2M (refM 6) (mapM' (pureM (.int 0)) Ref.val) (ordF .gt))) (testM (op2M (refM 7) (mapM' (op2M (refM 3) (mapM' (op2M (refM 6) (mapM' (pureM (.int 1)) Ref.val) subF) Ref.val) ixF) Ref.val) (ordF .le)))))
      (raiseXM "BadWords" ["index"] (consM (readM 6) (pureM [])))
      (nxM)
def m_Rule : M Fl := seqM (dropM (callM F_check_shape (consM (readM 1) (consM (readM 2) (pureM [])))))
      (seqM (iteM (notT (testM (op1M (refM 3) (isiF "tuple"))))
      (raiseXM "BadWords" ["index"] (consM (pureM .non) (pureM [])))
      (nxM))
      (seqM (forL (listM (consM (readM 3) (pureM [])) enum1D) (gTupM 2 (gsCons (gN 6) (gsCons (gN 7) (gsNil))))
      (b_Rule_1))
      (seqM (dropM (callM F_check_lengths (consM (readM 4) (consM (readM 5) (pureM [])))))
      (nxM))))
def F_Rule : FnM := initM m_Rule
def m__law_made : M Fl := retM (callM F_Rule (consM (op2M (refM 0) (mapM' (pureM (.int 0)) Ref.val) ixF) (consM (op2M (refM 0) (mapM' (pureM (.int 1)) Ref.val) ixF) (consM (op2M (refM 0) (mapM' (pureM (.int 2)) Ref.val) ixF) (consM (op2M (refM 0) (mapM' (pureM (.int 3)) Ref.val) ixF) (consM (op2M (refM 0) (mapM' (pureM (.int 4)) Ref.val) ixF) (pureM [])))))))
def F__law_made : FnM := fnM 0 m__law_made
def m__law_pick : M Fl := seqM (iteM (testM (op2M (mapM' (rowM 0 2) Ref.val) (mapM' (pureM (.int 0)) Ref.val) eqF))
      (iteM (testM (op2M (mapM' (rowM 0 1) Ref.val) (mapM' (op1M (mapM' (rowM 0 0) Ref.val) lenF) Ref.val) (ordF .lt)))
      (seqM (asgM 3 (op2M (mapM' (rowM 0 0) Ref.val) (mapM' (rowM 0 1) Ref.val) ixF))
      (seqM (rowSet 0 1 (op2M (mapM' (rowM 0 1) Ref.val) (mapM' (pureM (.int 1)) Ref.val) addF))
      (iteM (testM (op2M (refM 3) (mapM' (op2M (mapM' (pureM (.int 10)) Ref.val) (mapM' (pureM (.int 18)) Ref.val) powF) Ref.val) geF))
      (rowSet 0 2 (readM 3))
      (rowSet 0 3 (op2M (mapM' (op1M (mapM' (op2M (mapM' (op2M (mapM' (op2M (mapM' (rowM 0 3) Ref.val) (mapM' (pureM (.int 48271)) Ref.val) mulF) Ref.val) (mapM' (op2M (refM 3) (mapM' (pureM (.int 69621)) Ref.val) mulF) Ref.val) addF) Ref.val) (mapM' (pureM (.int 11)) Ref.val) addF) Ref.val) toIntF) Ref.val) (mapM' (pureM (.int 2147483647)) Ref.val) modF)))))
      (rowSet 0 3 (op2M (mapM' (op1M (mapM' (op2M (mapM' (op2M (mapM' (rowM 0 3) Ref.val) (mapM' (pureM (.int 48271)) Ref.val) mulF) Ref.val) (mapM' (pureM (.int 7)) Ref.val) addF) Ref.val) toIntF) Ref.val) (mapM' (pureM (.int 2147483647)) Ref.val) modF)))
      (nxM))
      (seqM (iteM (testM (op2M (mapM' (rowM 0 2) Ref.val) (mapM' (pureM (.int 0)) Ref.val) (ordF .gt)))
      (seqM (asgM 2 (op2M (mapM' (op1M (mapM' (rowM 0 2) Ref.val) toIntF) Ref.val) (refM 1) modF))
      (seqM (rowSet 0 2 (op2M (mapM' (rowM 0 2) Ref.val) (refM 1) fdivF))
      (retM (readM 2))))
      (nxM))
      (retM (op2M (mapM' (op2M (mapM' (op1M (mapM' (op2M (mapM' (rowM 0 3) Ref.val) (mapM' (pureM (.int 16807)) Ref.val) mulF) Ref.val) toIntF) Ref.val) (mapM' (pureM (.int 2147483629)) Ref.val) modF) Ref.val) (refM 1) modF)))
def F__law_pick : FnM := fnM 2 m__law_pick
def m__law_odd_text : M Fl := retM (op2M (mapM' (giveM (lstM (consM (pureM .non) (consM (giveM (lstM (consM (pureM (.int 0)) (pureM [])))) (consM (tupM (consM (op2M (refM 1) (mapM' (pureM (.int 0)) Ref.val) ixF) (pureM []))) (consM (tupM (consM (negM (pureM (.int 1))) (pureM []))) (consM (tupM (consM (pureM (.bl true)) (pureM []))) (consM (op2M (mapM' (tupM (consM (pureM (.int 0)) (pureM []))) Ref.val) (mapM' (pureM (.int 401)) Ref.val) mulF) (consM (pureM (.str "0")) (consM (tupM (consM (pureM .non) (pureM []))) (consM (tupM (consM (tupM (consM (pureM (.int 0)) (pureM []))) (pureM []))) (pureM [])))))))))))) Ref.val) (mapM' (callM F__law_pick (consM (readM 0) (consM (pureM (.int 9)) (pureM [])))) Ref.val) ixF)
def F__law_odd_text : FnM := fnM 0 m__law_odd_text
def m_parts_of : M Fl := retM (tupM (consM (op1M (refM 0) (fldF 0)) (consM (op1M (refM 0) (fldF 1)) (consM (op1M (refM 0) (fldF 2)) (consM (op1M (refM 0) (fldF 3)) (consM (op1M (refM 0) (fldF 4)) (pureM [])))))))
def F_parts_of : FnM := fnM 0 m_parts_of
def m_eq : M Fl := retM (andV (op1M (refM 1) isRuleF) (op2M (mapM' (callM F_parts_of (consM (readM 0) (pureM []))) Ref.val) (mapM' (callM F_parts_of (consM (readM 1) (pureM []))) Ref.val) eqF))
def F_eq : FnM := fnM 0 m_eq
def m__law_stands : M Fl := seqM (iteM (orT (testM (op2M (mapM' (propD 0 F_D_text) Ref.val) (mapM' (op2M (refM 2) (mapM' (negM (pureM (.int 1))) Ref.val) ixF) Ref.val) neF)) (orT (testM (eqOM (mapM' (propD 0 F_D_rule) Ref.val) (mapM' (callM F__law_made (consM (readM 1) (pureM []))) Ref.val) F_eq true)) (testM (op2M (mapM' (lenDM 0 F_D___len__) Ref.val) (mapM' (op2M (mapM' (op1M (refM 2) lenF) Ref.val) (mapM' (pureM (.int 1)) Ref.val) subF) Ref.val) neF))))
      (retM (pureM (.bl false)))
      (nxM))
      (seqM (asgM 3 (callM F__law_cuts (consM (readM 1) (consM (op2M (refM 2) (mapM' (negM (pureM (.int 1))) Ref.val) ixF) (pureM [])))))
      (retM (andV (op2M (mapM' (callD 0 F_D_places (pureM [])) Ref.val) (refM 3) eqF) (op2M (mapM' (callD 0 F_D_waits (pureM [])) Ref.val) (mapM' (sliceM (mapM' (op2M (refM 2) (mapM' (negM (pureM (.int 1))) Ref.val) ixF) Ref.val) (partM (op2M (mapM' (op2M (mapM' (giveM (lstM (consM (pureM (.int 0)) (pureM [])))) Ref.val) (refM 3) addF) Ref.val) (mapM' (negM (pureM (.int 1))) Ref.val) ixF)) (pureM none)) Ref.val) eqF))))
def F__law_stands : DnM := dnM 1 m__law_stands
def c_are_signs_1 : M D := callM F_is_from (consM (readM 2) (consM (pureM (.int 0)) (consM (op2M (mapM' (op1M (refM 0) (fldF 0)) Ref.val) (mapM' (pureM (.int 1)) Ref.val) subF) (pureM []))))
def m_are_signs : M Fl := retM (andV (op1M (refM 1) (isiF "tuple")) (op1M (mapM' (giveM (lcM (walkM (readM 1)) (gN 2) (pureM true) (c_are_signs_1) [2])) Ref.val) allF))
def F_are_signs : FnM := fnM 1 m_are_signs
def m_is_text : M Fl := retM (andV (callM F_are_signs (consM (readM 0) (consM (readM 1) (pureM [])))) (op2M (mapM' (op1M (refM 1) lenF) Ref.val) (mapM' (pureM (.int 400)) Ref.val) (ordF .le)))
def F_is_text : FnM := fnM 0 m_is_text
def m_check_text : M Fl := iteM (notT (testM (callM F_is_text (consM (readM 0) (consM (readM 1) (pureM []))))))
      (raiseM "BadText")
      (nxM)
def F_check_text : FnM := fnM 0 m_check_text
def m_D_tell : M Fl := seqM (dropM (callM F_check_text (consM (dskO 0) (consM (readM 1) (pureM [])))))
      (seqM (asgM 2 (op2M (mapM' (dskR 0) Ref.val) (mapM' (negM (pureM (.int 1))) Ref.val) ixF))
      (seqM (iteM (testM (op2M (mapM' (op2M (mapM' (op1M (refM 2) lenF) Ref.val) (mapM' (op1M (refM 1) lenF) Ref.val) addF) Ref.val) (mapM' (pureM (.int 400)) Ref.val) (ordF .gt)))
      (raiseM "BadText")
      (nxM))
      (seqM (asgM 3 (op1M (mapM' (callD 0 F_D_places (pureM [])) Ref.val) lenF))
      (seqM (dskSet 0 (tupM (starM (mapM' (dskR 0) Ref.val) (consM (tupM (starM (refM 2) (starM (refM 1) (pureM [])))) (pureM [])))))
      (retM (sliceM (mapM' (callD 0 F_D_places (pureM [])) Ref.val) (partM (readM 3)) (pureM none)))))))
def F_D_tell : DnM := dnM 2 m_D_tell
def m__law_wrong : M Fl := seqM (asgM 2 (pureM .non))
      (seqM (tryM errs (asgM 2 (callD 0 F_D_tell (consM (readM 1) (pureM [])))) [("BadText", 3, asgM 2 (pureM (.str "text")))])
      (retM (readM 2)))
def F__law_wrong : DnM := dnM 2 m__law_wrong
def m__law_of_copy : M Fl := seqM (asgD 5 (cpyD 0))
      (seqM (iteM (orT (notT (testM (callD 5 F__law_stands (consM (readM 1) (consM (readM 2) (pureM [])))))) (orT (testM (op2M (mapM' (callD 5 F__law_wrong (consM (readM 3) (pureM []))) Ref.val) (refM 4) neF)) (notT (testM (callD 0 F__law_stands (consM (readM 1) (consM (readM 2) (pureM []))))))))
      (retM (pureM (.bl false)))
      (nxM))
      (seqM (asgM 6 (iteM (testM (op2M (refM 4) (mapM' (pureM (.str "text")) Ref.val) neF)) (op2M (refM 2) (mapM' (giveM (lstM (consM (op2M (mapM' (op2M (refM 2) (mapM' (negM (pureM (.int 1))) Ref.val) ixF) Ref.val) (refM 3) addF) (pureM [])))) Ref.val) addF) (readM 2)))
      (seqM (iteM (orT (notT (testM (callD 5 F__law_stands (consM (readM 1) (consM (readM 6) (pureM [])))))) (testM (op2M (mapM' (callD 5 F_D_undo (pureM [])) Ref.val) (mapM' (op2M (mapM' (op1M (refM 6) lenF) Ref.val) (mapM' (pureM (.int 1)) Ref.val) (ordF .gt)) Ref.val) neF)))
      (retM (pureM (.bl false)))
      (nxM))
      (retM (andV (callD 5 F__law_stands (consM (readM 1) (consM (sliceM (refM 6) (pureM none) (partM (opLM (consM (pureM (.int 1)) (consM (op2M (mapM' (op1M (refM 6) lenF) Ref.val) (mapM' (pureM (.int 1)) Ref.val) subF) (pureM []))) max2F))) (pureM [])))) (callD 0 F__law_stands (consM (readM 1) (consM (readM 2) (pureM [])))))))))
def F__law_of_copy : DnM := dnM 2 m__law_of_copy
def c__law_words_1 : M D := op2M (refM 5) (mapM' (tupM (consM (readM 6) (pureM []))) Ref.val) addF
def b__law_words_1 : M Fl := asgM 4 (op2M (refM 4) (mapM' (giveM (lcM (listM (consM (readM 0) (pureM [])) range1D) (gN 6) (pureM true) (c__law_words_1) [6])) Ref.val) addF)
def b__law_words_2 : M Fl := seqM (asgM 4 (giveM (lstM (pureM []))))
      (seqM (forL (walkM (readM 2)) (gN 5)
      (b__law_words_1))
      (asgM 2 (readM 4)))
def m__law_words : M Fl := seqM (asgM 2 (giveM (lstM (consM (tupM (pureM [])) (pureM [])))))
      (seqM (forL (listM (consM (readM 1) (pureM [])) range1D) (gN 3)
      (b__law_words_2))
      (retM (readM 2)))
def F__law_words : FnM := fnM 5 m__law_words
def c__law_rule_1 : M D := readM 10
def u__law_rule_1 : M Bool := testM (op2M (mapM' (callM F__law_pick (consM (readM 0) (consM (readM 6) (pureM [])))) Ref.val) (mapM' (pureM (.int 0)) Ref.val) eqF)
def m__law_rule : M Fl := seqM (asgM 4 (op2M (mapM' (pureM (.int 2)) Ref.val) (mapM' (op2M (mapM' (op1M (mapM' (op2M (mapM' (callM F__law_pick (consM (readM 0) (consM (pureM (.int 3)) (pureM [])))) Ref.val) (mapM' (pureM (.int 0)) Ref.val) eqF) Ref.val) toIntF) Ref.val) (mapM' (op2M (refM 1) (mapM' (pureM (.int 2)) Ref.val) subF) Ref.val) mulF) Ref.val) addF))
      (seqM (asgM 5 (op2M (mapM' (pureM (.int 1)) Ref.val) (mapM' (callM F__law_pick (consM (readM 0) (consM (readM 2) (pureM [])))) Ref.val) addF))
      (seqM (asgM 6 (op2M (mapM' (pureM (.int 2)) Ref.val) (mapM' (callM F__law_pick (consM (readM 0) (consM (pureM (.int 3)) (pureM [])))) Ref.val) addF))
      (seqM (asgM 7 (op1M (mapM' (giveM (lcM (walkM (callM F__law_words (consM (readM 4) (consM (readM 5) (pureM []))))) (gN 10) (u__law_rule_1) (c__law_rule_1) [10])) Ref.val) tupleF))
      (seqM (asgM 8 (op2M (mapM' (pureM (.int 1)) Ref.val) (mapM' (callM F__law_pick (consM (readM 0) (consM (pureM (.int 3)) (pureM [])))) Ref.val) addF))
      (seqM (asgM 9 (op2M (refM 8) (mapM' (callM F__law_pick (consM (readM 0) (consM (op2M (refM 3) (mapM' (pureM (.int 2)) Ref.val) subF) (pureM [])))) Ref.val) addF))
      (retM (tupM (consM (readM 4) (consM (readM 5) (consM (readM 7) (consM (readM 8) (consM (op2M (mapM' (giveM (lstM (consM (pureM .non) (consM (readM 9) (pureM []))))) Ref.val) (mapM' (callM F__law_pick (consM (readM 0) (consM (pureM (.int 2)) (pureM [])))) Ref.val) ixF) (pureM [])))))))))))))
def F__law_rule : FnM := fnM 7 m__law_rule
def c__law_text_1 : M D := callM F__law_pick (consM (readM 0) (consM (op2M (refM 1) (mapM' (pureM (.int 0)) Ref.val) ixF) (pureM [])))
def m__law_text : M Fl := retM (op1M (mapM' (giveM (lcM (listM (consM (callM F__law_pick (consM (readM 0) (consM (op2M (refM 2) (mapM' (pureM (.int 1)) Ref.val) addF) (pureM [])))) (pureM [])) range1D) (gN 3) (pureM true) (c__law_text_1) [3])) Ref.val) tupleF)
def F__law_text : FnM := fnM 1 m__law_text
def c_law_1 : M D := readM 12
def u_law_1 : M Bool := testM (op2M (refM 12) (mapM' (op1M (mapM' (op2M (refM 7) (mapM' (negM (pureM (.int 1))) Ref.val) ixF) Ref.val) lenF) Ref.val) (ordF .gt))
def b_law_1 : M Fl := seqM (parM [10, 11] (consV (callM F__law_pick (consM (readM 1) (consM (pureM (.int 6)) (pureM [])))) (consV (callM F__law_text (consM (readM 1) (consM (readM 2) (consM (op2M (mapM' (giveM (lstM (consM (pureM (.int 5)) (consM (pureM (.int 5)) (consM (pureM (.int 150)) (pureM [])))))) Ref.val) (mapM' (callM F__law_pick (consM (readM 1) (consM (pureM (.int 3)) (pureM [])))) Ref.val) ixF) (pureM []))))) (pureM []))))
      (seqM (asgM 8 (op2M (mapM' (op2M (refM 7) (mapM' (negM (pureM (.int 1))) Ref.val) ixF) Ref.val) (refM 11) addF))
      (seqM (asgM 5 (pureM (.str "text")))
      (seqM (iteM (testM (op2M (mapM' (op1M (refM 8) lenF) Ref.val) (mapM' (pureM (.int 400)) Ref.val) (ordF .le)))
      (asgO 5 (lcM (walkM (callM F__law_cuts (consM (readM 2) (consM (readM 8) (pureM []))))) (gN 12) (u_law_1) (c_law_1) [12]))
      (nxM))
      (seqM (iteM (testM (op2M (refM 10) (mapM' (pureM (.int 0)) Ref.val) eqF))
      (seqM (iteM (testM (op2M (mapM' (callD 6 F_D_undo (pureM [])) Ref.val) (mapM' (op2M (mapM' (op1M (refM 7) lenF) Ref.val) (mapM' (pureM (.int 1)) Ref.val) (ordF .gt)) Ref.val) neF))
      (retM (pureM (.bl false)))
      (nxM))
      (asgM 7 (iteM (testM (op2M (mapM' (op1M (refM 7) lenF) Ref.val) (mapM' (pureM (.int 1)) Ref.val) (ordF .gt))) (sliceM (refM 7) (pureM none) (partM (negM (pureM (.int 1))))) (readM 7))))
      (iteM (testM (op2M (refM 10) (mapM' (pureM (.int 1)) Ref.val) eqF))
      (iteM (notT (testM (callD 6 F__law_of_copy (consM (readM 2) (consM (readM 7) (consM (readM 11) (consM (readM 5) (pureM []))))))))
      (retM (pureM (.bl false)))
      (nxM))
      (seqM (asgD 13 (cpyD 6))
      (seqM (iteM (orT (testM (op2M (mapM' (callD 6 F__law_wrong (consM (readM 11) (pureM []))) Ref.val) (refM 5) neF)) (notT (testM (callD 13 F__law_stands (consM (readM 2) (consM (readM 7) (pureM [])))))))
      (retM (pureM (.bl false)))
      (nxM))
      (asgM 7 (iteM (testM (op2M (refM 5) (mapM' (pureM (.str "text")) Ref.val) neF)) (op2M (refM 7) (mapM' (giveM (lstM (consM (readM 8) (pureM [])))) Ref.val) addF) (readM 7)))))))
      (seqM (iteM (testM (op2M (mapM' (callD 6 F__law_wrong (consM (callM F__law_odd_text (consM (readM 1) (consM (readM 2) (pureM [])))) (pureM []))) Ref.val) (mapM' (pureM (.str "text")) Ref.val) neF))
      (retM (pureM (.bl false)))
      (nxM))
      (seqM (asgM 9 (callM F__law_cuts (consM (readM 2) (consM (op2M (refM 7) (mapM' (negM (pureM (.int 1))) Ref.val) ixF) (pureM [])))))
      (seqM (iteM (orT (testM (op2M (mapM' (callD 6 F_D_places (pureM [])) Ref.val) (refM 9) neF)) (testM (op2M (mapM' (callD 6 F_D_waits (pureM [])) Ref.val) (mapM' (sliceM (mapM' (op2M (refM 7) (mapM' (negM (pureM (.int 1))) Ref.val) ixF) Ref.val) (partM (op2M (mapM' (op2M (mapM' (giveM (lstM (consM (pureM (.int 0)) (pureM [])))) Ref.val) (refM 9) addF) Ref.val) (mapM' (negM (pureM (.int 1))) Ref.val) ixF)) (pureM none)) Ref.val) neF)))
      (retM (pureM (.bl false)))
      (nxM))
      (iteM (orT (testM (op2M (mapM' (propD 6 F_D_text) Ref.val) (mapM' (op2M (refM 7) (mapM' (negM (pureM (.int 1))) Ref.val) ixF) Ref.val) neF)) (orT (testM (eqOM (mapM' (propD 6 F_D_rule) Ref.val) (mapM' (callM F__law_made (consM (readM 2) (pureM []))) Ref.val) F_eq true)) (testM (op2M (mapM' (lenDM 6 F_D___len__) Ref.val) (mapM' (op2M (mapM' (op1M (refM 7) lenF) Ref.val) (mapM' (pureM (.int 1)) Ref.val) subF) Ref.val) neF))))
      (retM (pureM (.bl false)))
      (nxM)))))))))
def c_law_2 : M D := readM 12
def u_law_2 : M Bool := testM (op2M (refM 12) (mapM' (op1M (mapM' (op2M (refM 7) (mapM' (negM (pureM (.int 1))) Ref.val) ixF) Ref.val) lenF) Ref.val) (ordF .gt))
def m_law : M Fl := seqM (asgM 2 (callM F__law_rule (consM (readM 1) (consM (pureM (.int 3)) (consM (pureM (.int 3)) (consM (pureM (.int 6)) (pureM [])))))))
      (seqM (parD 6 7 (mkD (callM F__law_made (consM (readM 2) (pureM [])))) (giveM (lstM (consM (tupM (pureM [])) (pureM [])))))
      (seqM (forL (listM (consM (callM F__law_pick (consM (readM 1) (consM (pureM (.int 13)) (pureM [])))) (pureM [])) range1D) (gN 3)
      (b_law_1))
      (seqM (asgM 4 (op2M (mapM' (tupM (consM (pureM (.int 0)) (pureM []))) Ref.val) (mapM' (op2M (mapM' (pureM (.int 400)) Ref.val) (mapM' (op1M (mapM' (op2M (refM 7) (mapM' (negM (pureM (.int 1))) Ref.val) ixF) Ref.val) lenF) Ref.val) subF) Ref.val) mulF))
      (seqM (asgO 5 (lcM (walkM (callM F__law_cuts (consM (readM 2) (consM (op2M (mapM' (op2M (refM 7) (mapM' (negM (pureM (.int 1))) Ref.val) ixF) Ref.val) (refM 4) addF) (pureM []))))) (gN 12) (u_law_2) (c_law_2) [12]))
      (retM (andV (op2M (mapM' (callD 6 F__law_wrong (consM (readM 4) (pureM []))) Ref.val) (refM 5) eqF) (op2M (mapM' (callD 6 F__law_wrong (consM (tupM (consM (pureM (.int 0)) (pureM []))) (pureM []))) Ref.val) (mapM' (pureM (.str "text")) Ref.val) eqF)))))))
end
end Cut

set_option Elab.async false
set_option linter.all false
set_option maxRecDepth 100000
set_option maxHeartbeats 0
namespace Cut
open PySem PySem.Spec PyProof.Rows L2 Mi
def top (i : Nat) : Stmt := PySem.Challenge.pw_cutsagain_k13_whole_desks.main.body.getD i (.Pass ⟨0, 0, 0, 0⟩)
/-- what is asked of the snapshot -/
structure Facts (K : PySem.W.Frag) (mg : Str → Option Value) : Prop where
  b_all : mg "all" = none
  b_bool : mg "bool" = none
  b_enumerate : mg "enumerate" = none
  b_int : mg "int" = none
  b_isinstance : mg "isinstance" = none
  b_len : mg "len" = none
  b_list : mg "list" = none
  b_max : mg "max" = none
  b_min : mg "min" = none
  b_range : mg "range" = none
  b_tuple : mg "tuple" = none
  c_MOST_LEAST : ∃ t, mg "MOST_LEAST" = some (.int 6 t)
  c_MOST_LENGTH : ∃ t, mg "MOST_LENGTH" = some (.int 8 t)
  c_MOST_SIGNS : ∃ t, mg "MOST_SIGNS" = some (.int 3 t)
  c_MOST_TEXT : ∃ t, mg "MOST_TEXT" = some (.int 400 t)
  c_MOST_WINDOW : ∃ t, mg "MOST_WINDOW" = some (.int 3 t)
  cl : Cls K (He.ga K "Rule")
  dk : DkC K
  e_BadLengths : ExcF K mg "BadLengths"
  e_BadSigns : ExcF K mg "BadSigns"
  e_BadText : ExcF K mg "BadText"
  e_BadWindow : ExcF K mg "BadWindow"
  eqc : EqCls K
  et : ExTab K mg errs
  g_BEGIN : mg "BEGIN" = some (.ref (He.ga K "BEGIN"))
  g_Rule : mg "Rule" = some (.ref (He.ga K "Rule"))
  kRR : PySem.W.kitOne K (.ref (He.ga K "Rule")) (.ref (He.ga K "Rule")) = some true
  kTR : ∀ t ∈ ["NoneType", "bool", "int", "str", "list", "tuple", "dict"], PySem.W.kitOne K (.type t) (.ref (He.ga K "Rule")) = some false
  ki_bool : PySem.W.kitOne K (.ref (He.ga K "Rule")) (.type "bool") = some false
  ki_int : PySem.W.kitOne K (.ref (He.ga K "Rule")) (.type "int") = some false
  ki_tuple : PySem.W.kitOne K (.ref (He.ga K "Rule")) (.type "tuple") = some false
  na_high : NoAttr K (He.ga K "Rule") "high"
  na_low : NoAttr K (He.ga K "Rule") "low"
  na_many : NoAttr K (He.ga K "Rule") "many"
  na_rows : NoAttr K (He.ga K "Rule") "rows"
  na_wide : NoAttr K (He.ga K "Rule") "wide"
  r_BEGIN : ∀ w ra F, Rep w K ra F (.ref (He.ga K "BEGIN")) (.tup [.tup [], .int 0])
  ri : RuleIs K
  x_BadWords : ExcI K mg "BadWords" ["index"]
theorem u65 {k : Nat} {A : Around} (r : Room k A) : A.units + 65 < cLine := by
  have := r.un
  omega
theorem initM_ret {b : M Fl} {ds : List D} {row row' : RowS} {d : D} (h : initM b ds row = .ret d row') : ∃ l, d = .obj l := by
  unfold initM at h
  split at h
  · split at h
    · cases h
      exact ⟨_, rfl⟩
    · cases h
  · cases h
  · cases h
  · cases h
/-! Desk.__len__ -/
theorem sc_D___len__ : FnScope ["self"] ["self"] (defScope (inClass (top 26) 8)) := ⟨rfl, rfl, rfl, by decide +kernel, rfl, by decide +kernel, by decide +kernel⟩
theorem w_D___len__ {P : Program} {w : World} {K : PySem.W.Frag} {mg : Str → Option Value} {base : Heap} (FS : Facts K mg) {fa : Addr} {cdv : Value} {A : Around} {outer : List PySem.Env} {s : Shared} {H : Hp} {E : XK} (hr : Room 0 (A.deeper (envOfC "Desk.__len__" (defScope (inClass (top 26) 8)) s.heap.objs.size fa cdv))) (tk : Takes (cxOf (L2.CX P w) P w K mg base ["self"] "Desk.__len__" (defScope (inClass (top 26) 8)) fa cdv A outer s H E) (fun cls d _ H' => E cls d H')) : PSsM (cxOf (L2.CX P w) P w K mg base ["self"] "Desk.__len__" (defScope (inClass (top 26) 8)) fa cdv A outer s H E) (fun cls d _ H' => E cls d H') (defBody (inClass (top 26) 8)) m_D___len__ := by
  have sc := sc_D___len__
  exact pssm_one (psm_ret (pm_len FS.b_len (pm_toRef (pm_slice (pm_toRef (pm_dskR FS.dk 0)) (pmp_some (pm_int)) (pmp_none)))))
theorem f_D___len__ {P : Program} {w : World} {K : PySem.W.Frag} {mg : Str → Option Value} {base : Heap} {fa : Addr} {fd : FuncData} (FS : Facts K mg) (FD : FunD K "__len__" "Desk.__len__" (defArgs (inClass (top 26) 8)) (defBody (inClass (top 26) 8)) (defScope (inClass (top 26) 8)) [] [] fa fd) (hmt : Meth K (He.ga K "Desk") "__len__" fa) (hb : Binds K fd ["self"] []) : MtD P w K mg base "__len__" 1 0 F_D___len__ := ⟨⟨fa, fd, _, fn_rawD FD sc_D___len__ rfl rfl fun cdv A outer s H E hr tk => w_D___len__ FS hr tk, hmt, hb⟩⟩
/-! Desk.__init__ -/
theorem sc_Desk : FnScope ["self", "rule"] ["self", "rule"] (defScope (inClass (top 26) 0)) := ⟨rfl, rfl, rfl, by decide +kernel, rfl, by decide +kernel, by decide +kernel⟩
theorem w_Desk {P : Program} {w : World} {K : PySem.W.Frag} {mg : Str → Option Value} {base : Heap} (FS : Facts K mg) {fa : Addr} {cdv : Value} {A : Around} {outer : List PySem.Env} {s : Shared} {H : Hp} {E : XK} (hr : Room 0 (A.deeper (envOfC "Desk.__init__" (defScope (inClass (top 26) 0)) s.heap.objs.size fa cdv))) (tk : Takes (cxOf (L2.CX P w) P w K mg base ["self", "rule"] "Desk.__init__" (defScope (inClass (top 26) 0)) fa cdv A outer s H E) (fun cls d _ H' => E cls d H')) : PSs (cxOf (L2.CX P w) P w K mg base ["self", "rule"] "Desk.__init__" (defScope (inClass (top 26) 0)) fa cdv A outer s H E) (defBody (inClass (top 26) 0)) (tDI w K) := pss_deskInit (s2 := .Pass ⟨0, 0, 0, 0⟩) (W := fun cls d _ H' => E cls d H') FS.dk (pm_tup (pma_cons (pm_tup (pma_nil)) (pma_nil))) (fun _ => rfl)
theorem f_Desk {P : Program} {w : World} {K : PySem.W.Frag} {mg : Str → Option Value} {base : Heap} {fa : Addr} {fd : FuncData} (FS : Facts K mg) (FD : FunD K "__init__" "Desk.__init__" (defArgs (inClass (top 26) 0)) (defBody (inClass (top 26) 0)) (defScope (inClass (top 26) 0)) [] [] fa fd) (hm : mg "Desk" = some (.ref (He.ga K "Desk"))) (hb : Binds K fd ["self", "rule"] []) (hk : Mk K (He.ga K "Desk") fa) : MkDk P w K mg base 1 := mkDk_ok (k := 0) FD sc_Desk hm hb hk rfl rfl fun cdv A outer s H E hr tk => w_Desk FS hr tk
/-! Desk.copy -/
theorem sc_D_copy : FnScope ["self", "found"] ["self"] (defScope (inClass (top 26) 7)) := ⟨rfl, rfl, rfl, by decide +kernel, rfl, by decide +kernel, by decide +kernel⟩
theorem f_D_copy {P : Program} {w : World} {K : PySem.W.Frag} {mg : Str → Option Value} {base : Heap} {fa : Addr} {fd : FuncData} (FS : Facts K mg) (G_Desk : MkDk P w K mg base 1) (FD : FunD K "copy" "Desk.copy" (defArgs (inClass (top 26) 7)) (defBody (inClass (top 26) 7)) (defScope (inClass (top 26) 7)) [] [] fa fd) (hmt : Meth K (He.ga K "Desk") "copy" fa) (hb : Binds K fd ["self"] []) : CpD P w K mg base 3 := by
  have sc := sc_D_copy
  exact cpD_ok (k := 2) (m1 := asgD 1 (mkD (dskO 0))) (m2 := dskSet 1 (dskR 0)) FD sc_D_copy hmt hb rfl rfl rfl (by decide) (by decide) (by first | exact Or.inl rfl | exact Or.inr (Or.inl rfl) | exact Or.inr (Or.inr rfl)) (fun _ _ _ => rfl) (fun _ _ _ => rfl) fun cdv A outer s H E hr tk => ⟨psm_setD 1 (pm_newD G_Desk hr tk (pm_dskO FS.dk 0)) sc.nd, psm_dskSet FS.dk 1 (pm_dskR FS.dk 0)⟩
/-! step_of -/
theorem sc_step_of : FnScope ["rule", "stand", "sign", "last", "length", "does"] ["rule", "stand", "sign"] (defScope (top 23)) := ⟨rfl, rfl, rfl, by decide +kernel, rfl, by decide +kernel, by decide +kernel⟩
theorem w_step_of {P : Program} {w : World} {K : PySem.W.Frag} {mg : Str → Option Value} {base : Heap} (FS : Facts K mg) {fa : Addr} {cdv : Value} {A : Around} {outer : List PySem.Env} {s : Shared} {H : Hp} {E : XK} (hr : Room 0 (A.deeper (envOfC "step_of" (defScope (top 23)) s.heap.objs.size fa cdv))) (tk : Takes (cxOf (L2.CX P w) P w K mg base ["rule", "stand", "sign", "last", "length", "does"] "step_of" (defScope (top 23)) fa cdv A outer s H E) (fun cls d _ H' => E cls d H')) : PSsM (cxOf (L2.CX P w) P w K mg base ["rule", "stand", "sign", "last", "length", "does"] "step_of" (defScope (top 23)) fa cdv A outer s H E) (fun cls d _ H' => E cls d H') (defBody (top 23)) m_step_of := by
  have sc := sc_step_of
  exact pssm_cons (psm_asg (pm_var 1) (pgm_tup (pgsm_cons (pgm_name 3 sc.nd) (pgsm_cons (pgm_name 4 sc.nd) (pgsm_nil)))) (gTup_quiet (gsCons_quiet (gN_quiet 3) (gsCons_quiet (gN_quiet 4) (gsNil_quiet)))))
      (pssm_cons (psm_set 3 (pm_slice (pm_toRef (pm_tup (pma_star (pm_ref 3) (pma_cons (pm_var 2) (pma_nil))))) (pmp_some (pm_neg (pm_fld 1 FS.cl FS.na_wide rfl (pm_ref 0)))) (pmp_none)) sc.nd)
      (pssm_cons (psm_augI 4 ip_add (pm_int) sc.nd)
      (pssm_cons (psm_set 5 (pm_or (pm_and (pm_ge (pm_ref 4) (pm_toRef (pm_fld 3 FS.cl FS.na_low rfl (pm_ref 0)))) (pm_one (pm_in (u65 hr) (pm_ref 3) (pm_toRef (pm_fld 2 FS.cl FS.na_rows rfl (pm_ref 0)))))) (pm_one (pm_eq hr.units (pm_ref 4) (pm_toRef (pm_fld 4 FS.cl FS.na_high rfl (pm_ref 0)))))) sc.nd)
      (pssm_cons (psm_if (pmt_val (pm_var 5))
      (pssm_one (psm_ret (pm_tup (pma_cons (pm_tup (pma_cons (pm_var 3) (pma_cons (pm_int) (pma_nil)))) (pma_cons (pm_bl) (pma_nil))))))
      (pssm_nil))
      (pssm_one (psm_ret (pm_tup (pma_cons (pm_tup (pma_cons (pm_var 3) (pma_cons (pm_ifExp (pmt_notN (pm_toRef (pm_fld 4 FS.cl FS.na_high rfl (pm_ref 0)))) (pm_var 4) (pm_min2 FS.b_min (pma_cons (pm_var 4) (pma_cons (pm_fld 3 FS.cl FS.na_low rfl (pm_ref 0)) (pma_nil))))) (pma_nil)))) (pma_cons (pm_bl) (pma_nil))))))))))
theorem f_step_of {P : Program} {w : World} {K : PySem.W.Frag} {mg : Str → Option Value} {base : Heap} {fa : Addr} {fd : FuncData} (FS : Facts K mg) (FD : FunD K "step_of" "step_of" (defArgs (top 23)) (defBody (top 23)) (defScope (top 23)) [] [] fa fd) (hm : mg "step_of" = some (.ref fa)) (hb : Binds K fd ["rule", "stand", "sign"] []) : Fn P w K mg base "step_of" 1 3 F_step_of := fn_ok FD sc_step_of hm hb rfl rfl fun cdv A outer s H E hr tk => w_step_of FS hr tk
/-! cuts_of -/
theorem sc_cuts_of : FnScope ["rule", "text", "found", "stand", "place", "sign", "does"] ["rule", "text"] (defScope (top 24)) := ⟨rfl, rfl, rfl, by decide +kernel, rfl, by decide +kernel, by decide +kernel⟩
theorem w_cuts_of {P : Program} {w : World} {K : PySem.W.Frag} {mg : Str → Option Value} {base : Heap} (FS : Facts K mg) (G_step_of : Fn P w K mg base "step_of" 1 3 F_step_of) {fa : Addr} {cdv : Value} {A : Around} {outer : List PySem.Env} {s : Shared} {H : Hp} {E : XK} (hr : Room 1 (A.deeper (envOfC "cuts_of" (defScope (top 24)) s.heap.objs.size fa cdv))) (tk : Takes (cxOf (L2.CX P w) P w K mg base ["rule", "text", "found", "stand", "place", "sign", "does"] "cuts_of" (defScope (top 24)) fa cdv A outer s H E) (fun cls d _ H' => E cls d H')) : PSsM (cxOf (L2.CX P w) P w K mg base ["rule", "text", "found", "stand", "place", "sign", "does"] "cuts_of" (defScope (top 24)) fa cdv A outer s H E) (fun cls d _ H' => E cls d H') (defBody (top 24)) m_cuts_of := by
  have sc := sc_cuts_of
  exact pssm_cons (psm_par2 2 3 (pml_own (pmo_lst (pma_nil)) (pml_val (pm_gtup FS.g_BEGIN FS.r_BEGIN) (pml_nil))) sc.nd)
      (pssm_cons (psm_for PassesOwn.leaving rfl (pim_enum FS.b_enumerate (pma_cons (pm_var 1) (pma_nil))) (pgm_tup (pgsm_cons (pgm_name 4 sc.nd) (pgsm_cons (pgm_name 5 sc.nd) (pgsm_nil)))) (gTup_quiet (gsCons_quiet (gN_quiet 4) (gsCons_quiet (gN_quiet 5) (gsNil_quiet))))
      (pssm_cons (psm_asg (pm_call G_step_of hr tk (pma_cons (pm_var 0) (pma_cons (pm_var 3) (pma_cons (pm_var 5) (pma_nil)))) (cons_len (cons_len (cons_len nil_len)))) (pgm_tup (pgsm_cons (pgm_name 3 sc.nd) (pgsm_cons (pgm_name 6 sc.nd) (pgsm_nil)))) (gTup_quiet (gsCons_quiet (gN_quiet 3) (gsCons_quiet (gN_quiet 6) (gsNil_quiet)))))
      (pssm_one (psm_if (pmt_val (pm_var 6))
      (pssm_one (psm_append 2 (pm_add (pm_ref 4) (pm_toRef (pm_int)))))
      (pssm_nil)))))
      (pssm_one (psm_ret (pm_var 2))))
theorem f_cuts_of {P : Program} {w : World} {K : PySem.W.Frag} {mg : Str → Option Value} {base : Heap} {fa : Addr} {fd : FuncData} (FS : Facts K mg) (G_step_of : Fn P w K mg base "step_of" 1 3 F_step_of) (FD : FunD K "cuts_of" "cuts_of" (defArgs (top 24)) (defBody (top 24)) (defScope (top 24)) [] [] fa fd) (hm : mg "cuts_of" = some (.ref fa)) (hb : Binds K fd ["rule", "text"] []) : Fn P w K mg base "cuts_of" 2 2 F_cuts_of := fn_ok FD sc_cuts_of hm hb rfl rfl fun cdv A outer s H E hr tk => w_cuts_of FS G_step_of hr tk
/-! Desk.places -/
theorem sc_D_places : FnScope ["self"] ["self"] (defScope (inClass (top 26) 3)) := ⟨rfl, rfl, rfl, by decide +kernel, rfl, by decide +kernel, by decide +kernel⟩
theorem w_D_places {P : Program} {w : World} {K : PySem.W.Frag} {mg : Str → Option Value} {base : Heap} (FS : Facts K mg) (G_cuts_of : Fn P w K mg base "cuts_of" 2 2 F_cuts_of) {fa : Addr} {cdv : Value} {A : Around} {outer : List PySem.Env} {s : Shared} {H : Hp} {E : XK} (hr : Room 2 (A.deeper (envOfC "Desk.places" (defScope (inClass (top 26) 3)) s.heap.objs.size fa cdv))) (tk : Takes (cxOf (L2.CX P w) P w K mg base ["self"] "Desk.places" (defScope (inClass (top 26) 3)) fa cdv A outer s H E) (fun cls d _ H' => E cls d H')) : PSsM (cxOf (L2.CX P w) P w K mg base ["self"] "Desk.places" (defScope (inClass (top 26) 3)) fa cdv A outer s H E) (fun cls d _ H' => E cls d H') (defBody (inClass (top 26) 3)) m_D_places := by
  have sc := sc_D_places
  exact pssm_one (psm_ret (pm_call G_cuts_of hr tk (pma_cons (pm_dskO FS.dk 0) (pma_cons (pm_ix hr.units (pm_toRef (pm_dskR FS.dk 0)) (pm_toRef (pm_neg (pm_int)))) (pma_nil))) (cons_len (cons_len nil_len))))
theorem f_D_places {P : Program} {w : World} {K : PySem.W.Frag} {mg : Str → Option Value} {base : Heap} {fa : Addr} {fd : FuncData} (FS : Facts K mg) (G_cuts_of : Fn P w K mg base "cuts_of" 2 2 F_cuts_of) (FD : FunD K "places" "Desk.places" (defArgs (inClass (top 26) 3)) (defBody (inClass (top 26) 3)) (defScope (inClass (top 26) 3)) [] [] fa fd) (hmt : Meth K (He.ga K "Desk") "places" fa) (hb : Binds K fd ["self"] []) : MtD P w K mg base "places" 3 0 F_D_places := ⟨⟨fa, fd, _, fn_rawD FD sc_D_places rfl rfl fun cdv A outer s H E hr tk => w_D_places FS G_cuts_of hr tk, hmt, hb⟩⟩
/-! Desk.rule -/
theorem sc_D_rule : FnScope ["self"] ["self"] (defScope (inClass (top 26) 1)) := ⟨rfl, rfl, rfl, by decide +kernel, rfl, by decide +kernel, by decide +kernel⟩
theorem w_D_rule {P : Program} {w : World} {K : PySem.W.Frag} {mg : Str → Option Value} {base : Heap} (FS : Facts K mg) {fa : Addr} {cdv : Value} {A : Around} {outer : List PySem.Env} {s : Shared} {H : Hp} {E : XK} (hr : Room 0 (A.deeper (envOfC "Desk.rule" (defScope (inClass (top 26) 1)) s.heap.objs.size fa cdv))) (tk : Takes (cxOf (L2.CX P w) P w K mg base ["self"] "Desk.rule" (defScope (inClass (top 26) 1)) fa cdv A outer s H E) (fun cls d _ H' => E cls d H')) : PSsM (cxOf (L2.CX P w) P w K mg base ["self"] "Desk.rule" (defScope (inClass (top 26) 1)) fa cdv A outer s H E) (fun cls d _ H' => E cls d H') (defBody (inClass (top 26) 1)) m_D_rule := by
  have sc := sc_D_rule
  exact pssm_one (psm_ret (pm_dskO FS.dk 0))
theorem f_D_rule {P : Program} {w : World} {K : PySem.W.Frag} {mg : Str → Option Value} {base : Heap} {p : Addr} {fa : Addr} {fd : FuncData} (FS : Facts K mg) (FD : FunD K "rule" "Desk.rule" (defArgs (inClass (top 26) 1)) (defBody (inClass (top 26) 1)) (defScope (inClass (top 26) 1)) [] [] fa fd) (hp : PropOf K (He.ga K "Desk") "rule" p fa) (hb : Binds K fd ["self"] []) : GtDk P w K mg base "rule" 1 F_D_rule := ⟨⟨p, fa, fd, _, hp, fn_rawD FD sc_D_rule rfl rfl fun cdv A outer s H E hr tk => w_D_rule FS hr tk, hb⟩⟩
/-! Desk.text -/
theorem sc_D_text : FnScope ["self"] ["self"] (defScope (inClass (top 26) 2)) := ⟨rfl, rfl, rfl, by decide +kernel, rfl, by decide +kernel, by decide +kernel⟩
theorem w_D_text {P : Program} {w : World} {K : PySem.W.Frag} {mg : Str → Option Value} {base : Heap} (FS : Facts K mg) {fa : Addr} {cdv : Value} {A : Around} {outer : List PySem.Env} {s : Shared} {H : Hp} {E : XK} (hr : Room 0 (A.deeper (envOfC "Desk.text" (defScope (inClass (top 26) 2)) s.heap.objs.size fa cdv))) (tk : Takes (cxOf (L2.CX P w) P w K mg base ["self"] "Desk.text" (defScope (inClass (top 26) 2)) fa cdv A outer s H E) (fun cls d _ H' => E cls d H')) : PSsM (cxOf (L2.CX P w) P w K mg base ["self"] "Desk.text" (defScope (inClass (top 26) 2)) fa cdv A outer s H E) (fun cls d _ H' => E cls d H') (defBody (inClass (top 26) 2)) m_D_text := by
  have sc := sc_D_text
  exact pssm_one (psm_ret (pm_ix hr.units (pm_toRef (pm_dskR FS.dk 0)) (pm_toRef (pm_neg (pm_int)))))
theorem f_D_text {P : Program} {w : World} {K : PySem.W.Frag} {mg : Str → Option Value} {base : Heap} {p : Addr} {fa : Addr} {fd : FuncData} (FS : Facts K mg) (FD : FunD K "text" "Desk.text" (defArgs (inClass (top 26) 2)) (defBody (inClass (top 26) 2)) (defScope (inClass (top 26) 2)) [] [] fa fd) (hp : PropOf K (He.ga K "Desk") "text" p fa) (hb : Binds K fd ["self"] []) : GtDk P w K mg base "text" 1 F_D_text := ⟨⟨p, fa, fd, _, hp, fn_rawD FD sc_D_text rfl rfl fun cdv A outer s H E hr tk => w_D_text FS hr tk, hb⟩⟩
/-! Desk.undo -/
theorem sc_D_undo : FnScope ["self"] ["self"] (defScope (inClass (top 26) 6)) := ⟨rfl, rfl, rfl, by decide +kernel, rfl, by decide +kernel, by decide +kernel⟩
theorem w_D_undo {P : Program} {w : World} {K : PySem.W.Frag} {mg : Str → Option Value} {base : Heap} (FS : Facts K mg) {fa : Addr} {cdv : Value} {A : Around} {outer : List PySem.Env} {s : Shared} {H : Hp} {E : XK} (hr : Room 0 (A.deeper (envOfC "Desk.undo" (defScope (inClass (top 26) 6)) s.heap.objs.size fa cdv))) (tk : Takes (cxOf (L2.CX P w) P w K mg base ["self"] "Desk.undo" (defScope (inClass (top 26) 6)) fa cdv A outer s H E) (fun cls d _ H' => E cls d H')) : PSsM (cxOf (L2.CX P w) P w K mg base ["self"] "Desk.undo" (defScope (inClass (top 26) 6)) fa cdv A outer s H E) (fun cls d _ H' => E cls d H') (defBody (inClass (top 26) 6)) m_D_undo := by
  have sc := sc_D_undo
  exact pssm_cons (psm_if (pmt_eq hr.units (pm_toRef (pm_len FS.b_len (pm_toRef (pm_dskR FS.dk 0)))) (pm_toRef (pm_int)))
      (pssm_one (psm_ret (pm_bl)))
      (pssm_nil))
      (pssm_cons (psm_dskSet FS.dk 0 (pm_slice (pm_toRef (pm_dskR FS.dk 0)) (pmp_none) (pmp_some (pm_neg (pm_int)))))
      (pssm_one (psm_ret (pm_bl))))
theorem f_D_undo {P : Program} {w : World} {K : PySem.W.Frag} {mg : Str → Option Value} {base : Heap} {fa : Addr} {fd : FuncData} (FS : Facts K mg) (FD : FunD K "undo" "Desk.undo" (defArgs (inClass (top 26) 6)) (defBody (inClass (top 26) 6)) (defScope (inClass (top 26) 6)) [] [] fa fd) (hmt : Meth K (He.ga K "Desk") "undo" fa) (hb : Binds K fd ["self"] []) : MtD P w K mg base "undo" 1 0 F_D_undo := ⟨⟨fa, fd, _, fn_rawD FD sc_D_undo rfl rfl fun cdv A outer s H E hr tk => w_D_undo FS hr tk, hmt, hb⟩⟩
/-! Desk.waits -/
theorem sc_D_waits : FnScope ["self", "ends"] ["self"] (defScope (inClass (top 26) 5)) := ⟨rfl, rfl, rfl, by decide +kernel, rfl, by decide +kernel, by decide +kernel⟩
theorem w_D_waits {P : Program} {w : World} {K : PySem.W.Frag} {mg : Str → Option Value} {base : Heap} (FS : Facts K mg) (G_D_places : MtD P w K mg base "places" 3 0 F_D_places) {fa : Addr} {cdv : Value} {A : Around} {outer : List PySem.Env} {s : Shared} {H : Hp} {E : XK} (hr : Room 3 (A.deeper (envOfC "Desk.waits" (defScope (inClass (top 26) 5)) s.heap.objs.size fa cdv))) (tk : Takes (cxOf (L2.CX P w) P w K mg base ["self", "ends"] "Desk.waits" (defScope (inClass (top 26) 5)) fa cdv A outer s H E) (fun cls d _ H' => E cls d H')) : PSsM (cxOf (L2.CX P w) P w K mg base ["self", "ends"] "Desk.waits" (defScope (inClass (top 26) 5)) fa cdv A outer s H E) (fun cls d _ H' => E cls d H') (defBody (inClass (top 26) 5)) m_D_waits := by
  have sc := sc_D_waits
  exact pssm_cons (psm_set 1 (pm_give (pmo_lst (pma_cons (pm_int) (pma_star (pm_toRef (pm_methD0 FS.dk 0 G_D_places hr tk)) (pma_nil))))) sc.nd)
      (pssm_one (psm_ret (pm_slice (pm_toRef (pm_ix hr.units (pm_toRef (pm_dskR FS.dk 0)) (pm_toRef (pm_neg (pm_int))))) (pmp_some (pm_ix hr.units (pm_ref 1) (pm_toRef (pm_neg (pm_int))))) (pmp_none))))
theorem f_D_waits {P : Program} {w : World} {K : PySem.W.Frag} {mg : Str → Option Value} {base : Heap} {fa : Addr} {fd : FuncData} (FS : Facts K mg) (G_D_places : MtD P w K mg base "places" 3 0 F_D_places) (FD : FunD K "waits" "Desk.waits" (defArgs (inClass (top 26) 5)) (defBody (inClass (top 26) 5)) (defScope (inClass (top 26) 5)) [] [] fa fd) (hmt : Meth K (He.ga K "Desk") "waits" fa) (hb : Binds K fd ["self"] []) : MtD P w K mg base "waits" 4 0 F_D_waits := ⟨⟨fa, fd, _, fn_rawD FD sc_D_waits rfl rfl fun cdv A outer s H E hr tk => w_D_waits FS G_D_places hr tk, hmt, hb⟩⟩
/-! _law_cuts -/
theorem sc__law_cuts : FnScope ["_law_r", "_law_text_here", "_law_end", "_law_begin", "_law_found", "_law_does"] ["_law_r", "_law_text_here"] (defScope (top 33)) := ⟨rfl, rfl, rfl, by decide +kernel, rfl, by decide +kernel, by decide +kernel⟩
theorem w__law_cuts {P : Program} {w : World} {K : PySem.W.Frag} {mg : Str → Option Value} {base : Heap} (FS : Facts K mg) {fa : Addr} {cdv : Value} {A : Around} {outer : List PySem.Env} {s : Shared} {H : Hp} {E : XK} (hr : Room 0 (A.deeper (envOfC "_law_cuts" (defScope (top 33)) s.heap.objs.size fa cdv))) (tk : Takes (cxOf (L2.CX P w) P w K mg base ["_law_r", "_law_text_here", "_law_end", "_law_begin", "_law_found", "_law_does"] "_law_cuts" (defScope (top 33)) fa cdv A outer s H E) (fun cls d _ H' => E cls d H')) : PSsM (cxOf (L2.CX P w) P w K mg base ["_law_r", "_law_text_here", "_law_end", "_law_begin", "_law_found", "_law_does"] "_law_cuts" (defScope (top 33)) fa cdv A outer s H E) (fun cls d _ H' => E cls d H') (defBody (top 33)) m__law_cuts := by
  have sc := sc__law_cuts
  exact pssm_cons (psm_par2 3 4 (pml_val (pm_int) (pml_own (pmo_lst (pma_nil)) (pml_nil))) sc.nd)
      (pssm_cons (psm_for PassesOwn.leaving rfl (pim_range2 FS.b_range (pma_cons (pm_int) (pma_cons (pm_add (pm_toRef (pm_len FS.b_len (pm_ref 1))) (pm_toRef (pm_int))) (pma_nil)))) (pgm_name 2 sc.nd) (gN_quiet 2)
      (pssm_cons (psm_set 5 (pm_and (pm_ge (pm_toRef (pm_sub (pm_ref 2) (pm_ref 3))) (pm_toRef (pm_ix hr.units (pm_ref 0) (pm_toRef (pm_int))))) (pm_and (pm_ge (pm_ref 2) (pm_toRef (pm_ix hr.units (pm_ref 0) (pm_toRef (pm_int))))) (pm_one (pm_in (u65 hr) (pm_toRef (pm_slice (pm_ref 1) (pmp_some (pm_sub (pm_ref 2) (pm_toRef (pm_ix hr.units (pm_ref 0) (pm_toRef (pm_int)))))) (pmp_some (pm_var 2)))) (pm_toRef (pm_ix hr.units (pm_ref 0) (pm_toRef (pm_int)))))))) sc.nd)
      (pssm_one (psm_if (pmt_w (pmw_or (pmt_val (pm_var 5)) (pmw_or1 (pmt_eq hr.units (pm_toRef (pm_sub (pm_ref 2) (pm_ref 3))) (pm_toRef (pm_ix hr.units (pm_ref 0) (pm_toRef (pm_int))))))))
      (pssm_cons (psm_append 4 (pm_var 2))
      (pssm_one (psm_set 3 (pm_var 2) sc.nd)))
      (pssm_nil)))))
      (pssm_one (psm_ret (pm_var 4))))
theorem f__law_cuts {P : Program} {w : World} {K : PySem.W.Frag} {mg : Str → Option Value} {base : Heap} {fa : Addr} {fd : FuncData} (FS : Facts K mg) (FD : FunD K "_law_cuts" "_law_cuts" (defArgs (top 33)) (defBody (top 33)) (defScope (top 33)) [] [] fa fd) (hm : mg "_law_cuts" = some (.ref fa)) (hb : Binds K fd ["_law_r", "_law_text_here"] []) : Fn P w K mg base "_law_cuts" 1 2 F__law_cuts := fn_ok FD sc__law_cuts hm hb rfl rfl fun cdv A outer s H E hr tk => w__law_cuts FS hr tk
/-! is_from -/
theorem sc_is_from : FnScope ["value", "low", "high"] ["value", "low", "high"] (defScope (top 14)) := ⟨rfl, rfl, rfl, by decide +kernel, rfl, by decide +kernel, by decide +kernel⟩
theorem w_is_from {P : Program} {w : World} {K : PySem.W.Frag} {mg : Str → Option Value} {base : Heap} (FS : Facts K mg) {fa : Addr} {cdv : Value} {A : Around} {outer : List PySem.Env} {s : Shared} {H : Hp} {E : XK} (hr : Room 0 (A.deeper (envOfC "is_from" (defScope (top 14)) s.heap.objs.size fa cdv))) (tk : Takes (cxOf (L2.CX P w) P w K mg base ["value", "low", "high"] "is_from" (defScope (top 14)) fa cdv A outer s H E) (fun cls d _ H' => E cls d H')) : PSsM (cxOf (L2.CX P w) P w K mg base ["value", "low", "high"] "is_from" (defScope (top 14)) fa cdv A outer s H E) (fun cls d _ H' => E cls d H') (defBody (top 14)) m_is_from := by
  have sc := sc_is_from
  exact pssm_one (psm_ret (pm_and (pm_isi FS.b_isinstance (by decide +kernel) FS.b_int (by decide +kernel) FS.ri FS.ki_int (pm_ref 0)) (pm_and (pm_not (pm_isi FS.b_isinstance (by decide +kernel) FS.b_bool (by decide +kernel) FS.ri FS.ki_bool (pm_ref 0))) (pm_one (pm_chain op_le op_le (pm_var 1) (pm_var 0) (pm_var 2))))))
theorem f_is_from {P : Program} {w : World} {K : PySem.W.Frag} {mg : Str → Option Value} {base : Heap} {fa : Addr} {fd : FuncData} (FS : Facts K mg) (FD : FunD K "is_from" "is_from" (defArgs (top 14)) (defBody (top 14)) (defScope (top 14)) [] [] fa fd) (hm : mg "is_from" = some (.ref fa)) (hb : Binds K fd ["value", "low", "high"] []) : Fn P w K mg base "is_from" 1 3 F_is_from := fn_ok FD sc_is_from hm hb rfl rfl fun cdv A outer s H E hr tk => w_is_from FS hr tk
/-! check_lengths -/
theorem sc_check_lengths : FnScope ["least", "most"] ["least", "most"] (defScope (top 17)) := ⟨rfl, rfl, rfl, by decide +kernel, rfl, by decide +kernel, by decide +kernel⟩
theorem w_check_lengths {P : Program} {w : World} {K : PySem.W.Frag} {mg : Str → Option Value} {base : Heap} (FS : Facts K mg) (G_is_from : Fn P w K mg base "is_from" 1 3 F_is_from) {fa : Addr} {cdv : Value} {A : Around} {outer : List PySem.Env} {s : Shared} {H : Hp} {E : XK} (hr : Room 1 (A.deeper (envOfC "check_lengths" (defScope (top 17)) s.heap.objs.size fa cdv))) (tk : Takes (cxOf (L2.CX P w) P w K mg base ["least", "most"] "check_lengths" (defScope (top 17)) fa cdv A outer s H E) (fun cls d _ H' => E cls d H')) : PSsM (cxOf (L2.CX P w) P w K mg base ["least", "most"] "check_lengths" (defScope (top 17)) fa cdv A outer s H E) (fun cls d _ H' => E cls d H') (defBody (top 17)) m_check_lengths := by
  have sc := sc_check_lengths
  exact pssm_cons (psm_if (pmt_not (pmt_val (pm_call G_is_from hr tk (pma_cons (pm_var 0) (pma_cons (pm_int) (pma_cons (pm_gint FS.c_MOST_LEAST) (pma_nil)))) (cons_len (cons_len (cons_len nil_len))))))
      (pssm_one (psm_raise0 FS.e_BadLengths tk))
      (pssm_nil))
      (pssm_one (psm_if (pmt_w (pmw_and (pmt_notN (pm_ref 1)) (pmw_and1 (pmt_not (pmt_val (pm_call G_is_from hr tk (pma_cons (pm_var 1) (pma_cons (pm_var 0) (pma_cons (pm_gint FS.c_MOST_LENGTH) (pma_nil)))) (cons_len (cons_len (cons_len nil_len)))))))))
      (pssm_one (psm_raise0 FS.e_BadLengths tk))
      (pssm_nil)))
theorem f_check_lengths {P : Program} {w : World} {K : PySem.W.Frag} {mg : Str → Option Value} {base : Heap} {fa : Addr} {fd : FuncData} (FS : Facts K mg) (G_is_from : Fn P w K mg base "is_from" 1 3 F_is_from) (FD : FunD K "check_lengths" "check_lengths" (defArgs (top 17)) (defBody (top 17)) (defScope (top 17)) [] [] fa fd) (hm : mg "check_lengths" = some (.ref fa)) (hb : Binds K fd ["least", "most"] []) : Fn P w K mg base "check_lengths" 2 2 F_check_lengths := fn_ok FD sc_check_lengths hm hb rfl rfl fun cdv A outer s H E hr tk => w_check_lengths FS G_is_from hr tk
/-! check_shape -/
theorem sc_check_shape : FnScope ["signs", "window"] ["signs", "window"] (defScope (top 16)) := ⟨rfl, rfl, rfl, by decide +kernel, rfl, by decide +kernel, by decide +kernel⟩
theorem w_check_shape {P : Program} {w : World} {K : PySem.W.Frag} {mg : Str → Option Value} {base : Heap} (FS : Facts K mg) (G_is_from : Fn P w K mg base "is_from" 1 3 F_is_from) {fa : Addr} {cdv : Value} {A : Around} {outer : List PySem.Env} {s : Shared} {H : Hp} {E : XK} (hr : Room 1 (A.deeper (envOfC "check_shape" (defScope (top 16)) s.heap.objs.size fa cdv))) (tk : Takes (cxOf (L2.CX P w) P w K mg base ["signs", "window"] "check_shape" (defScope (top 16)) fa cdv A outer s H E) (fun cls d _ H' => E cls d H')) : PSsM (cxOf (L2.CX P w) P w K mg base ["signs", "window"] "check_shape" (defScope (top 16)) fa cdv A outer s H E) (fun cls d _ H' => E cls d H') (defBody (top 16)) m_check_shape := by
  have sc := sc_check_shape
  exact pssm_cons (psm_if (pmt_not (pmt_val (pm_call G_is_from hr tk (pma_cons (pm_var 0) (pma_cons (pm_int) (pma_cons (pm_gint FS.c_MOST_SIGNS) (pma_nil)))) (cons_len (cons_len (cons_len nil_len))))))
      (pssm_one (psm_raise0 FS.e_BadSigns tk))
      (pssm_nil))
      (pssm_one (psm_if (pmt_not (pmt_val (pm_call G_is_from hr tk (pma_cons (pm_var 1) (pma_cons (pm_int) (pma_cons (pm_gint FS.c_MOST_WINDOW) (pma_nil)))) (cons_len (cons_len (cons_len nil_len))))))
      (pssm_one (psm_raise0 FS.e_BadWindow tk))
      (pssm_nil)))
theorem f_check_shape {P : Program} {w : World} {K : PySem.W.Frag} {mg : Str → Option Value} {base : Heap} {fa : Addr} {fd : FuncData} (FS : Facts K mg) (G_is_from : Fn P w K mg base "is_from" 1 3 F_is_from) (FD : FunD K "check_shape" "check_shape" (defArgs (top 16)) (defBody (top 16)) (defScope (top 16)) [] [] fa fd) (hm : mg "check_shape" = some (.ref fa)) (hb : Binds K fd ["signs", "window"] []) : Fn P w K mg base "check_shape" 2 2 F_check_shape := fn_ok FD sc_check_shape hm hb rfl rfl fun cdv A outer s H E hr tk => w_check_shape FS G_is_from hr tk
/-! is_word -/
theorem sc_is_word : FnScope ["signs", "window", "value", "one"] ["signs", "window", "value"] (defScope (top 15)) := ⟨rfl, rfl, rfl, by decide +kernel, rfl, by decide +kernel, by decide +kernel⟩
theorem w_is_word {P : Program} {w : World} {K : PySem.W.Frag} {mg : Str → Option Value} {base : Heap} (FS : Facts K mg) (G_is_from : Fn P w K mg base "is_from" 1 3 F_is_from) {fa : Addr} {cdv : Value} {A : Around} {outer : List PySem.Env} {s : Shared} {H : Hp} {E : XK} (hr : Room 1 (A.deeper (envOfC "is_word" (defScope (top 15)) s.heap.objs.size fa cdv))) (tk : Takes (cxOf (L2.CX P w) P w K mg base ["signs", "window", "value", "one"] "is_word" (defScope (top 15)) fa cdv A outer s H E) (fun cls d _ H' => E cls d H')) : PSsM (cxOf (L2.CX P w) P w K mg base ["signs", "window", "value", "one"] "is_word" (defScope (top 15)) fa cdv A outer s H E) (fun cls d _ H' => E cls d H') (defBody (top 15)) m_is_word := by
  have sc := sc_is_word
  exact pssm_one (psm_ret (pm_and (pm_isi FS.b_isinstance (by decide +kernel) FS.b_tuple (by decide +kernel) FS.ri FS.ki_tuple (pm_ref 2)) (pm_and (pm_eq hr.units (pm_toRef (pm_len FS.b_len (pm_ref 2))) (pm_ref 1)) (pm_one (pm_all FS.b_all (pm_toRef (pm_give (pmo_lc (pim_items (pm_var 2)) (fun _ _ _ _ _ => pgm_name 3 sc.nd) (fun _ _ _ _ _ => pmts_nil) (fun _ _ _ _ _ => pm_call G_is_from hr takes0 (pma_cons (pm_var 3) (pma_cons (pm_int) (pma_cons (pm_sub (pm_ref 0) (pm_toRef (pm_int))) (pma_nil)))) (cons_len (cons_len (cons_len nil_len)))) rfl sc.nd [("one", 3)]))))))))
theorem f_is_word {P : Program} {w : World} {K : PySem.W.Frag} {mg : Str → Option Value} {base : Heap} {fa : Addr} {fd : FuncData} (FS : Facts K mg) (G_is_from : Fn P w K mg base "is_from" 1 3 F_is_from) (FD : FunD K "is_word" "is_word" (defArgs (top 15)) (defBody (top 15)) (defScope (top 15)) [] [] fa fd) (hm : mg "is_word" = some (.ref fa)) (hb : Binds K fd ["signs", "window", "value"] []) : Fn P w K mg base "is_word" 2 3 F_is_word := fn_ok FD sc_is_word hm hb rfl rfl fun cdv A outer s H E hr tk => w_is_word FS G_is_from hr tk
/-! Rule.__init__ -/
theorem sc_Rule : FnScope ["self", "signs", "window", "words", "least", "most", "index", "word"] ["self", "signs", "window", "words", "least", "most"] (defScope (inClass (top 18) 0)) := ⟨rfl, rfl, rfl, by decide +kernel, rfl, by decide +kernel, by decide +kernel⟩
theorem w_Rule {P : Program} {w : World} {K : PySem.W.Frag} {mg : Str → Option Value} {base : Heap} (FS : Facts K mg) (G_BadWords : XInit P w K mg base "BadWords" ["index"] 1) (G_check_lengths : Fn P w K mg base "check_lengths" 2 2 F_check_lengths) (G_check_shape : Fn P w K mg base "check_shape" 2 2 F_check_shape) (G_is_word : Fn P w K mg base "is_word" 2 3 F_is_word) {fa : Addr} {cdv : Value} {A : Around} {outer : List PySem.Env} {s : Shared} {H : Hp} {E : XK} (hr : Room 2 (A.deeper (envOfC "Rule.__init__" (defScope (inClass (top 18) 0)) s.heap.objs.size fa cdv))) (tk : Takes (cxOf (L2.CX P w) P w K mg base ["self", "signs", "window", "words", "least", "most", "index", "word"] "Rule.__init__" (defScope (inClass (top 18) 0)) fa cdv A outer s H E) (fun cls d _ H' => E cls d H')) : PSs (cxOf (L2.CX P w) P w K mg base ["self", "signs", "window", "words", "least", "most", "index", "word"] "Rule.__init__" (defScope (inClass (top 18) 0)) fa cdv A outer s H E) (defBody (inClass (top 18) 0)) (fun D' σ H1 => tS w K (fun cls d _ H' => E cls d H') m_Rule { D' with nx := tStores K D' } σ H1) := by
  have sc := sc_Rule
  exact pssi_cons (psm_expr (pm_call G_check_shape hr tk (pma_cons (pm_var 1) (pma_cons (pm_var 2) (pma_nil))) (cons_len (cons_len nil_len))))
      (pssi_cons (psm_if (pmt_not (pmt_val (pm_isi FS.b_isinstance (by decide +kernel) FS.b_tuple (by decide +kernel) FS.ri FS.ki_tuple (pm_ref 3))))
      (pssm_one (psm_raiseX G_BadWords (by decide) hr tk (pma_cons (pm_non) (pma_nil)) (cons_len nil_len)))
      (pssm_nil))
      (pssi_cons (psm_for PassesOwn.leaving rfl (pim_enum FS.b_enumerate (pma_cons (pm_var 3) (pma_nil))) (pgm_tup (pgsm_cons (pgm_name 6 sc.nd) (pgsm_cons (pgm_name 7 sc.nd) (pgsm_nil)))) (gTup_quiet (gsCons_quiet (gN_quiet 6) (gsCons_quiet (gN_quiet 7) (gsNil_quiet))))
      (pssm_one (psm_if (pmt_w (pmw_or (pmt_not (pmt_val (pm_call G_is_word hr tk (pma_cons (pm_var 1) (pma_cons (pm_var 2) (pma_cons (pm_var 7) (pma_nil)))) (cons_len (cons_len (cons_len nil_len)))))) (pmw_or1 (pmt_w (pmw_and (pmt_gt hr.units (pm_ref 6) (pm_toRef (pm_int))) (pmw_and1 (pmt_le hr.units (pm_ref 7) (pm_toRef (pm_ix hr.units (pm_ref 3) (pm_toRef (pm_sub (pm_ref 6) (pm_toRef (pm_int)))))))))))))
      (pssm_one (psm_raiseX G_BadWords (by decide) hr tk (pma_cons (pm_var 6) (pma_nil)) (cons_len nil_len)))
      (pssm_nil))))
      (pssi_cons (psm_expr (pm_call G_check_lengths hr tk (pma_cons (pm_var 4) (pma_cons (pm_var 5) (pma_nil))) (cons_len (cons_len nil_len))))
      (pssi_nil (pss_stores (ps_store1 1 FS.cl FS.na_many) (ps_store1 2 FS.cl FS.na_wide) (ps_store1 3 FS.cl FS.na_rows) (ps_store1 4 FS.cl FS.na_low) (ps_store1 5 FS.cl FS.na_high))))))
theorem f_Rule {P : Program} {w : World} {K : PySem.W.Frag} {mg : Str → Option Value} {base : Heap} {fa : Addr} {fd : FuncData} (FS : Facts K mg) (G_BadWords : XInit P w K mg base "BadWords" ["index"] 1) (G_check_lengths : Fn P w K mg base "check_lengths" 2 2 F_check_lengths) (G_check_shape : Fn P w K mg base "check_shape" 2 2 F_check_shape) (G_is_word : Fn P w K mg base "is_word" 2 3 F_is_word) (FD : FunD K "__init__" "Rule.__init__" (defArgs (inClass (top 18) 0)) (defBody (inClass (top 18) 0)) (defScope (inClass (top 18) 0)) [] [] fa fd) (hm : mg "Rule" = some (.ref (He.ga K "Rule"))) (hb : Binds K fd ["self", "signs", "window", "words", "least", "most"] []) (hk : Mk K (He.ga K "Rule") fa) : MkF P w K mg base 3 F_Rule := mk_ok FD sc_Rule hm hb hk rfl rfl fun cdv A outer s H E hr tk => w_Rule FS G_BadWords G_check_lengths G_check_shape G_is_word hr tk
/-! _law_made -/
theorem sc__law_made : FnScope ["_law_r"] ["_law_r"] (defScope (top 32)) := ⟨rfl, rfl, rfl, by decide +kernel, rfl, by decide +kernel, by decide +kernel⟩
theorem w__law_made {P : Program} {w : World} {K : PySem.W.Frag} {mg : Str → Option Value} {base : Heap} (FS : Facts K mg) (G_Rule : MkF P w K mg base 3 F_Rule) {fa : Addr} {cdv : Value} {A : Around} {outer : List PySem.Env} {s : Shared} {H : Hp} {E : XK} (hr : Room 4 (A.deeper (envOfC "_law_made" (defScope (top 32)) s.heap.objs.size fa cdv))) (tk : Takes (cxOf (L2.CX P w) P w K mg base ["_law_r"] "_law_made" (defScope (top 32)) fa cdv A outer s H E) (fun cls d _ H' => E cls d H')) : PSsM (cxOf (L2.CX P w) P w K mg base ["_law_r"] "_law_made" (defScope (top 32)) fa cdv A outer s H E) (fun cls d _ H' => E cls d H') (defBody (top 32)) m__law_made := by
  have sc := sc__law_made
  exact pssm_one (psm_ret (pm_make G_Rule hr tk (pma_cons (pm_ix hr.units (pm_ref 0) (pm_toRef (pm_int))) (pma_cons (pm_ix hr.units (pm_ref 0) (pm_toRef (pm_int))) (pma_cons (pm_ix hr.units (pm_ref 0) (pm_toRef (pm_int))) (pma_cons (pm_ix hr.units (pm_ref 0) (pm_toRef (pm_int))) (pma_cons (pm_ix hr.units (pm_ref 0) (pm_toRef (pm_int))) (pma_nil)))))) (cons_len (cons_len (cons_len (cons_len (cons_len nil_len))))) (fun _ _ _ _ h => initM_ret h)))
theorem f__law_made {P : Program} {w : World} {K : PySem.W.Frag} {mg : Str → Option Value} {base : Heap} {fa : Addr} {fd : FuncData} (FS : Facts K mg) (G_Rule : MkF P w K mg base 3 F_Rule) (FD : FunD K "_law_made" "_law_made" (defArgs (top 32)) (defBody (top 32)) (defScope (top 32)) [] [] fa fd) (hm : mg "_law_made" = some (.ref fa)) (hb : Binds K fd ["_law_r"] []) : Fn P w K mg base "_law_made" 5 1 F__law_made := fn_ok FD sc__law_made hm hb rfl rfl fun cdv A outer s H E hr tk => w__law_made FS G_Rule hr tk
/-! _law_pick -/
theorem sc__law_pick : FnScope ["_law_row", "_law_many", "_law_found", "_law_cell"] ["_law_row", "_law_many"] (defScope (top 29)) := ⟨rfl, rfl, rfl, by decide +kernel, rfl, by decide +kernel, by decide +kernel⟩
theorem w__law_pick {P : Program} {w : World} {K : PySem.W.Frag} {mg : Str → Option Value} {base : Heap} (FS : Facts K mg) {fa : Addr} {cdv : Value} {A : Around} {outer : List PySem.Env} {s : Shared} {H : Hp} {E : XK} (hr : Room 0 (A.deeper (envOfC "_law_pick" (defScope (top 29)) s.heap.objs.size fa cdv))) (tk : Takes (cxOf (L2.CX P w) P w K mg base ["_law_row", "_law_many", "_law_found", "_law_cell"] "_law_pick" (defScope (top 29)) fa cdv A outer s H E) (fun cls d _ H' => E cls d H')) : PSsM (cxOf (L2.CX P w) P w K mg base ["_law_row", "_law_many", "_law_found", "_law_cell"] "_law_pick" (defScope (top 29)) fa cdv A outer s H E) (fun cls d _ H' => E cls d H') (defBody (top 29)) m__law_pick := by
  have sc := sc__law_pick
  exact pssm_cons (psm_if (pmt_eq hr.units (pm_toRef (pm_row 0 2)) (pm_toRef (pm_int)))
      (pssm_one (psm_if (pmt_lt hr.units (pm_toRef (pm_row 0 1)) (pm_toRef (pm_len FS.b_len (pm_toRef (pm_row 0 0)))))
      (pssm_cons (psm_set 3 (pm_ix hr.units (pm_toRef (pm_row 0 0)) (pm_toRef (pm_row 0 1))) sc.nd)
      (pssm_cons (psm_row 0 1 (pm_add (pm_toRef (pm_row 0 1)) (pm_toRef (pm_int))))
      (pssm_one (psm_if (pmt_ge (pm_ref 3) (pm_toRef (pm_pow (pm_toRef (pm_int)) (pm_toRef (pm_int)))))
      (pssm_one (psm_row 0 2 (pm_var 3)))
      (pssm_one (psm_row 0 3 (pm_mod (pm_toRef (pm_toInt FS.b_int (pm_toRef (pm_add (pm_toRef (pm_add (pm_toRef (pm_mul (pm_toRef (pm_row 0 3)) (pm_toRef (pm_int)))) (pm_toRef (pm_mul (pm_ref 3) (pm_toRef (pm_int)))))) (pm_toRef (pm_int)))))) (pm_toRef (pm_int)))))))))
      (pssm_one (psm_row 0 3 (pm_mod (pm_toRef (pm_toInt FS.b_int (pm_toRef (pm_add (pm_toRef (pm_mul (pm_toRef (pm_row 0 3)) (pm_toRef (pm_int)))) (pm_toRef (pm_int)))))) (pm_toRef (pm_int)))))))
      (pssm_nil))
      (pssm_cons (psm_if (pmt_gt hr.units (pm_toRef (pm_row 0 2)) (pm_toRef (pm_int)))
      (pssm_cons (psm_set 2 (pm_mod (pm_toRef (pm_toInt FS.b_int (pm_toRef (pm_row 0 2)))) (pm_ref 1)) sc.nd)
      (pssm_cons (psm_row 0 2 (pm_fdiv (pm_toRef (pm_row 0 2)) (pm_ref 1)))
      (pssm_one (psm_ret (pm_var 2)))))
      (pssm_nil))
      (pssm_one (psm_ret (pm_mod (pm_toRef (pm_mod (pm_toRef (pm_toInt FS.b_int (pm_toRef (pm_mul (pm_toRef (pm_row 0 3)) (pm_toRef (pm_int)))))) (pm_toRef (pm_int)))) (pm_ref 1)))))
theorem f__law_pick {P : Program} {w : World} {K : PySem.W.Frag} {mg : Str → Option Value} {base : Heap} {fa : Addr} {fd : FuncData} (FS : Facts K mg) (FD : FunD K "_law_pick" "_law_pick" (defArgs (top 29)) (defBody (top 29)) (defScope (top 29)) [] [] fa fd) (hm : mg "_law_pick" = some (.ref fa)) (hb : Binds K fd ["_law_row", "_law_many"] []) : Fn P w K mg base "_law_pick" 1 2 F__law_pick := fn_ok FD sc__law_pick hm hb rfl rfl fun cdv A outer s H E hr tk => w__law_pick FS hr tk
/-! _law_odd_text -/
theorem sc__law_odd_text : FnScope ["_law_row", "_law_r"] ["_law_row", "_law_r"] (defScope (top 35)) := ⟨rfl, rfl, rfl, by decide +kernel, rfl, by decide +kernel, by decide +kernel⟩
theorem w__law_odd_text {P : Program} {w : World} {K : PySem.W.Frag} {mg : Str → Option Value} {base : Heap} (FS : Facts K mg) (G__law_pick : Fn P w K mg base "_law_pick" 1 2 F__law_pick) {fa : Addr} {cdv : Value} {A : Around} {outer : List PySem.Env} {s : Shared} {H : Hp} {E : XK} (hr : Room 1 (A.deeper (envOfC "_law_odd_text" (defScope (top 35)) s.heap.objs.size fa cdv))) (tk : Takes (cxOf (L2.CX P w) P w K mg base ["_law_row", "_law_r"] "_law_odd_text" (defScope (top 35)) fa cdv A outer s H E) (fun cls d _ H' => E cls d H')) : PSsM (cxOf (L2.CX P w) P w K mg base ["_law_row", "_law_r"] "_law_odd_text" (defScope (top 35)) fa cdv A outer s H E) (fun cls d _ H' => E cls d H') (defBody (top 35)) m__law_odd_text := by
  have sc := sc__law_odd_text
  exact pssm_one (psm_ret (pm_ix hr.units (pm_toRef (pm_give (pmo_lst (pma_cons (pm_non) (pma_cons (pm_give (pmo_lst (pma_cons (pm_int) (pma_nil)))) (pma_cons (pm_tup (pma_cons (pm_ix hr.units (pm_ref 1) (pm_toRef (pm_int))) (pma_nil))) (pma_cons (pm_tup (pma_cons (pm_neg (pm_int)) (pma_nil))) (pma_cons (pm_tup (pma_cons (pm_bl) (pma_nil))) (pma_cons (pm_mul (pm_toRef (pm_tup (pma_cons (pm_int) (pma_nil)))) (pm_toRef (pm_int))) (pma_cons (pm_str) (pma_cons (pm_tup (pma_cons (pm_non) (pma_nil))) (pma_cons (pm_tup (pma_cons (pm_tup (pma_cons (pm_int) (pma_nil))) (pma_nil))) (pma_nil))))))))))))) (pm_toRef (pm_call G__law_pick hr tk (pma_cons (pm_var 0) (pma_cons (pm_int) (pma_nil))) (cons_len (cons_len nil_len))))))
theorem f__law_odd_text {P : Program} {w : World} {K : PySem.W.Frag} {mg : Str → Option Value} {base : Heap} {fa : Addr} {fd : FuncData} (FS : Facts K mg) (G__law_pick : Fn P w K mg base "_law_pick" 1 2 F__law_pick) (FD : FunD K "_law_odd_text" "_law_odd_text" (defArgs (top 35)) (defBody (top 35)) (defScope (top 35)) [] [] fa fd) (hm : mg "_law_odd_text" = some (.ref fa)) (hb : Binds K fd ["_law_row", "_law_r"] []) : Fn P w K mg base "_law_odd_text" 2 2 F__law_odd_text := fn_ok FD sc__law_odd_text hm hb rfl rfl fun cdv A outer s H E hr tk => w__law_odd_text FS G__law_pick hr tk
/-! parts_of -/
theorem sc_parts_of : FnScope ["rule"] ["rule"] (defScope (top 19)) := ⟨rfl, rfl, rfl, by decide +kernel, rfl, by decide +kernel, by decide +kernel⟩
theorem w_parts_of {P : Program} {w : World} {K : PySem.W.Frag} {mg : Str → Option Value} {base : Heap} (FS : Facts K mg) {fa : Addr} {cdv : Value} {A : Around} {outer : List PySem.Env} {s : Shared} {H : Hp} {E : XK} (hr : Room 0 (A.deeper (envOfC "parts_of" (defScope (top 19)) s.heap.objs.size fa cdv))) (tk : Takes (cxOf (L2.CX P w) P w K mg base ["rule"] "parts_of" (defScope (top 19)) fa cdv A outer s H E) (fun cls d _ H' => E cls d H')) : PSsM (cxOf (L2.CX P w) P w K mg base ["rule"] "parts_of" (defScope (top 19)) fa cdv A outer s H E) (fun cls d _ H' => E cls d H') (defBody (top 19)) m_parts_of := by
  have sc := sc_parts_of
  exact pssm_one (psm_ret (pm_tup (pma_cons (pm_fld 0 FS.cl FS.na_many rfl (pm_ref 0)) (pma_cons (pm_fld 1 FS.cl FS.na_wide rfl (pm_ref 0)) (pma_cons (pm_fld 2 FS.cl FS.na_rows rfl (pm_ref 0)) (pma_cons (pm_fld 3 FS.cl FS.na_low rfl (pm_ref 0)) (pma_cons (pm_fld 4 FS.cl FS.na_high rfl (pm_ref 0)) (pma_nil))))))))
theorem f_parts_of {P : Program} {w : World} {K : PySem.W.Frag} {mg : Str → Option Value} {base : Heap} {fa : Addr} {fd : FuncData} (FS : Facts K mg) (FD : FunD K "parts_of" "parts_of" (defArgs (top 19)) (defBody (top 19)) (defScope (top 19)) [] [] fa fd) (hm : mg "parts_of" = some (.ref fa)) (hb : Binds K fd ["rule"] []) : Fn P w K mg base "parts_of" 1 1 F_parts_of := fn_ok FD sc_parts_of hm hb rfl rfl fun cdv A outer s H E hr tk => w_parts_of FS hr tk
/-! Rule.__eq__ -/
theorem sc_eq : FnScope ["self", "other"] ["self", "other"] (defScope (inClass (top 18) 6)) := ⟨rfl, rfl, rfl, by decide +kernel, rfl, by decide +kernel, by decide +kernel⟩
theorem w_eq {P : Program} {w : World} {K : PySem.W.Frag} {mg : Str → Option Value} {base : Heap} (FS : Facts K mg) (G_parts_of : Fn P w K mg base "parts_of" 1 1 F_parts_of) {fa : Addr} {cdv : Value} {A : Around} {outer : List PySem.Env} {s : Shared} {H : Hp} {E : XK} (hr : Room 1 (A.deeper (envOfC "Rule.__eq__" (defScope (inClass (top 18) 6)) s.heap.objs.size fa cdv))) (tk : Takes (cxOf (L2.CX P w) P w K mg base ["self", "other"] "Rule.__eq__" (defScope (inClass (top 18) 6)) fa cdv A outer s H E) (fun cls d _ H' => E cls d H')) : PSsM (cxOf (L2.CX P w) P w K mg base ["self", "other"] "Rule.__eq__" (defScope (inClass (top 18) 6)) fa cdv A outer s H E) (fun cls d _ H' => E cls d H') (defBody (inClass (top 18) 6)) m_eq := by
  have sc := sc_eq
  exact pssm_one (psm_ret (pm_and (pm_isRule FS.b_isinstance (by decide +kernel) FS.g_Rule FS.ri FS.kRR FS.kTR (pm_ref 1)) (pm_one (pm_eq hr.units (pm_toRef (pm_call G_parts_of hr tk (pma_cons (pm_var 0) (pma_nil)) (cons_len nil_len))) (pm_toRef (pm_call G_parts_of hr tk (pma_cons (pm_var 1) (pma_nil)) (cons_len nil_len)))))))
theorem f_eq {P : Program} {w : World} {K : PySem.W.Frag} {mg : Str → Option Value} {base : Heap} {fd : FuncData} (FS : Facts K mg) (G_parts_of : Fn P w K mg base "parts_of" 1 1 F_parts_of) (FD : FunD K "__eq__" "Rule.__eq__" (defArgs (inClass (top 18) 6)) (defBody (inClass (top 18) 6)) (defScope (inClass (top 18) 6)) [] [] (He.ma K (He.ga K "Rule") "__eq__") fd) (hb : Binds K fd ["self", "other"] []) : EqFn P w K mg base 2 F_eq := ⟨FS.eqc, fd, _, fn_raw FD sc_eq rfl rfl fun cdv A outer s H E hr tk => w_eq FS G_parts_of hr tk, hb⟩
/-! _law_stands -/
theorem sc__law_stands : FnScope ["_law_desk", "_law_r", "_law_past", "_law_ends"] ["_law_desk", "_law_r", "_law_past"] (defScope (top 37)) := ⟨rfl, rfl, rfl, by decide +kernel, rfl, by decide +kernel, by decide +kernel⟩
theorem w__law_stands {P : Program} {w : World} {K : PySem.W.Frag} {mg : Str → Option Value} {base : Heap} (FS : Facts K mg) (G_D___len__ : MtD P w K mg base "__len__" 1 0 F_D___len__) (G_D_places : MtD P w K mg base "places" 3 0 F_D_places) (G_D_rule : GtDk P w K mg base "rule" 1 F_D_rule) (G_D_text : GtDk P w K mg base "text" 1 F_D_text) (G_D_waits : MtD P w K mg base "waits" 4 0 F_D_waits) (G__law_cuts : Fn P w K mg base "_law_cuts" 1 2 F__law_cuts) (G__law_made : Fn P w K mg base "_law_made" 5 1 F__law_made) (G_eq : EqFn P w K mg base 2 F_eq) {fa : Addr} {cdv : Value} {A : Around} {outer : List PySem.Env} {s : Shared} {H : Hp} {E : XK} (hr : Room 5 (A.deeper (envOfC "_law_stands" (defScope (top 37)) s.heap.objs.size fa cdv))) (tk : Takes (cxOf (L2.CX P w) P w K mg base ["_law_desk", "_law_r", "_law_past", "_law_ends"] "_law_stands" (defScope (top 37)) fa cdv A outer s H E) (fun cls d _ H' => E cls d H')) : PSsM (cxOf (L2.CX P w) P w K mg base ["_law_desk", "_law_r", "_law_past", "_law_ends"] "_law_stands" (defScope (top 37)) fa cdv A outer s H E) (fun cls d _ H' => E cls d H') (defBody (top 37)) m__law_stands := by
  have sc := sc__law_stands
  exact pssm_cons (psm_if (pmt_w (pmw_or (pmt_ne hr.units (pm_toRef (pm_propD FS.dk 0 G_D_text hr)) (pm_toRef (pm_ix hr.units (pm_ref 2) (pm_toRef (pm_neg (pm_int)))))) (pmw_or (pmt_neO G_eq hr (pm_toRef (pm_propD FS.dk 0 G_D_rule hr)) (pm_toRef (pm_call G__law_made hr tk (pma_cons (pm_var 1) (pma_nil)) (cons_len nil_len)))) (pmw_or1 (pmt_ne hr.units (pm_toRef (pm_lenD 0 G_D___len__ hr FS.b_len)) (pm_toRef (pm_sub (pm_toRef (pm_len FS.b_len (pm_ref 2))) (pm_toRef (pm_int)))))))))
      (pssm_one (psm_ret (pm_bl)))
      (pssm_nil))
      (pssm_cons (psm_set 3 (pm_call G__law_cuts hr tk (pma_cons (pm_var 1) (pma_cons (pm_ix hr.units (pm_ref 2) (pm_toRef (pm_neg (pm_int)))) (pma_nil))) (cons_len (cons_len nil_len))) sc.nd)
      (pssm_one (psm_ret (pm_and (pm_eq hr.units (pm_toRef (pm_methD0 FS.dk 0 G_D_places hr tk)) (pm_ref 3)) (pm_one (pm_eq hr.units (pm_toRef (pm_methD0 FS.dk 0 G_D_waits hr tk)) (pm_toRef (pm_slice (pm_toRef (pm_ix hr.units (pm_ref 2) (pm_toRef (pm_neg (pm_int))))) (pmp_some (pm_ix hr.units (pm_toRef (pm_add (pm_toRef (pm_give (pmo_lst (pma_cons (pm_int) (pma_nil))))) (pm_ref 3))) (pm_toRef (pm_neg (pm_int))))) (pmp_none)))))))))
theorem f__law_stands {P : Program} {w : World} {K : PySem.W.Frag} {mg : Str → Option Value} {base : Heap} {fa : Addr} {fd : FuncData} (FS : Facts K mg) (G_D___len__ : MtD P w K mg base "__len__" 1 0 F_D___len__) (G_D_places : MtD P w K mg base "places" 3 0 F_D_places) (G_D_rule : GtDk P w K mg base "rule" 1 F_D_rule) (G_D_text : GtDk P w K mg base "text" 1 F_D_text) (G_D_waits : MtD P w K mg base "waits" 4 0 F_D_waits) (G__law_cuts : Fn P w K mg base "_law_cuts" 1 2 F__law_cuts) (G__law_made : Fn P w K mg base "_law_made" 5 1 F__law_made) (G_eq : EqFn P w K mg base 2 F_eq) (FD : FunD K "_law_stands" "_law_stands" (defArgs (top 37)) (defBody (top 37)) (defScope (top 37)) [] [] fa fd) (hm : mg "_law_stands" = some (.ref fa)) (hb : Binds K fd ["_law_desk", "_law_r", "_law_past"] []) : FnD P w K mg base "_law_stands" 6 2 F__law_stands := ⟨⟨fa, fd, _, fn_rawD FD sc__law_stands rfl rfl fun cdv A outer s H E hr tk => w__law_stands FS G_D___len__ G_D_places G_D_rule G_D_text G_D_waits G__law_cuts G__law_made G_eq hr tk, hm, FD.kp, hb⟩⟩
/-! are_signs -/
theorem sc_are_signs : FnScope ["rule", "value", "sign"] ["rule", "value"] (defScope (top 20)) := ⟨rfl, rfl, rfl, by decide +kernel, rfl, by decide +kernel, by decide +kernel⟩
theorem w_are_signs {P : Program} {w : World} {K : PySem.W.Frag} {mg : Str → Option Value} {base : Heap} (FS : Facts K mg) (G_is_from : Fn P w K mg base "is_from" 1 3 F_is_from) {fa : Addr} {cdv : Value} {A : Around} {outer : List PySem.Env} {s : Shared} {H : Hp} {E : XK} (hr : Room 1 (A.deeper (envOfC "are_signs" (defScope (top 20)) s.heap.objs.size fa cdv))) (tk : Takes (cxOf (L2.CX P w) P w K mg base ["rule", "value", "sign"] "are_signs" (defScope (top 20)) fa cdv A outer s H E) (fun cls d _ H' => E cls d H')) : PSsM (cxOf (L2.CX P w) P w K mg base ["rule", "value", "sign"] "are_signs" (defScope (top 20)) fa cdv A outer s H E) (fun cls d _ H' => E cls d H') (defBody (top 20)) m_are_signs := by
  have sc := sc_are_signs
  exact pssm_one (psm_ret (pm_and (pm_isi FS.b_isinstance (by decide +kernel) FS.b_tuple (by decide +kernel) FS.ri FS.ki_tuple (pm_ref 1)) (pm_one (pm_all FS.b_all (pm_toRef (pm_give (pmo_lc (pim_items (pm_var 1)) (fun _ _ _ _ _ => pgm_name 2 sc.nd) (fun _ _ _ _ _ => pmts_nil) (fun _ _ _ _ _ => pm_call G_is_from hr takes0 (pma_cons (pm_var 2) (pma_cons (pm_int) (pma_cons (pm_sub (pm_toRef (pm_fld 0 FS.cl FS.na_many rfl (pm_ref 0))) (pm_toRef (pm_int))) (pma_nil)))) (cons_len (cons_len (cons_len nil_len)))) rfl sc.nd [("sign", 2)])))))))
theorem f_are_signs {P : Program} {w : World} {K : PySem.W.Frag} {mg : Str → Option Value} {base : Heap} {fa : Addr} {fd : FuncData} (FS : Facts K mg) (G_is_from : Fn P w K mg base "is_from" 1 3 F_is_from) (FD : FunD K "are_signs" "are_signs" (defArgs (top 20)) (defBody (top 20)) (defScope (top 20)) [] [] fa fd) (hm : mg "are_signs" = some (.ref fa)) (hb : Binds K fd ["rule", "value"] []) : Fn P w K mg base "are_signs" 2 2 F_are_signs := fn_ok FD sc_are_signs hm hb rfl rfl fun cdv A outer s H E hr tk => w_are_signs FS G_is_from hr tk
/-! is_text -/
theorem sc_is_text : FnScope ["rule", "value"] ["rule", "value"] (defScope (top 21)) := ⟨rfl, rfl, rfl, by decide +kernel, rfl, by decide +kernel, by decide +kernel⟩
theorem w_is_text {P : Program} {w : World} {K : PySem.W.Frag} {mg : Str → Option Value} {base : Heap} (FS : Facts K mg) (G_are_signs : Fn P w K mg base "are_signs" 2 2 F_are_signs) {fa : Addr} {cdv : Value} {A : Around} {outer : List PySem.Env} {s : Shared} {H : Hp} {E : XK} (hr : Room 2 (A.deeper (envOfC "is_text" (defScope (top 21)) s.heap.objs.size fa cdv))) (tk : Takes (cxOf (L2.CX P w) P w K mg base ["rule", "value"] "is_text" (defScope (top 21)) fa cdv A outer s H E) (fun cls d _ H' => E cls d H')) : PSsM (cxOf (L2.CX P w) P w K mg base ["rule", "value"] "is_text" (defScope (top 21)) fa cdv A outer s H E) (fun cls d _ H' => E cls d H') (defBody (top 21)) m_is_text := by
  have sc := sc_is_text
  exact pssm_one (psm_ret (pm_and (pm_call G_are_signs hr tk (pma_cons (pm_var 0) (pma_cons (pm_var 1) (pma_nil))) (cons_len (cons_len nil_len))) (pm_one (pm_le hr.units (pm_toRef (pm_len FS.b_len (pm_ref 1))) (pm_toRef (pm_gint FS.c_MOST_TEXT))))))
theorem f_is_text {P : Program} {w : World} {K : PySem.W.Frag} {mg : Str → Option Value} {base : Heap} {fa : Addr} {fd : FuncData} (FS : Facts K mg) (G_are_signs : Fn P w K mg base "are_signs" 2 2 F_are_signs) (FD : FunD K "is_text" "is_text" (defArgs (top 21)) (defBody (top 21)) (defScope (top 21)) [] [] fa fd) (hm : mg "is_text" = some (.ref fa)) (hb : Binds K fd ["rule", "value"] []) : Fn P w K mg base "is_text" 3 2 F_is_text := fn_ok FD sc_is_text hm hb rfl rfl fun cdv A outer s H E hr tk => w_is_text FS G_are_signs hr tk
/-! check_text -/
theorem sc_check_text : FnScope ["rule", "value"] ["rule", "value"] (defScope (top 22)) := ⟨rfl, rfl, rfl, by decide +kernel, rfl, by decide +kernel, by decide +kernel⟩
theorem w_check_text {P : Program} {w : World} {K : PySem.W.Frag} {mg : Str → Option Value} {base : Heap} (FS : Facts K mg) (G_is_text : Fn P w K mg base "is_text" 3 2 F_is_text) {fa : Addr} {cdv : Value} {A : Around} {outer : List PySem.Env} {s : Shared} {H : Hp} {E : XK} (hr : Room 3 (A.deeper (envOfC "check_text" (defScope (top 22)) s.heap.objs.size fa cdv))) (tk : Takes (cxOf (L2.CX P w) P w K mg base ["rule", "value"] "check_text" (defScope (top 22)) fa cdv A outer s H E) (fun cls d _ H' => E cls d H')) : PSsM (cxOf (L2.CX P w) P w K mg base ["rule", "value"] "check_text" (defScope (top 22)) fa cdv A outer s H E) (fun cls d _ H' => E cls d H') (defBody (top 22)) m_check_text := by
  have sc := sc_check_text
  exact pssm_one (psm_if (pmt_not (pmt_val (pm_call G_is_text hr tk (pma_cons (pm_var 0) (pma_cons (pm_var 1) (pma_nil))) (cons_len (cons_len nil_len)))))
      (pssm_one (psm_raise0 FS.e_BadText tk))
      (pssm_nil))
theorem f_check_text {P : Program} {w : World} {K : PySem.W.Frag} {mg : Str → Option Value} {base : Heap} {fa : Addr} {fd : FuncData} (FS : Facts K mg) (G_is_text : Fn P w K mg base "is_text" 3 2 F_is_text) (FD : FunD K "check_text" "check_text" (defArgs (top 22)) (defBody (top 22)) (defScope (top 22)) [] [] fa fd) (hm : mg "check_text" = some (.ref fa)) (hb : Binds K fd ["rule", "value"] []) : Fn P w K mg base "check_text" 4 2 F_check_text := fn_ok FD sc_check_text hm hb rfl rfl fun cdv A outer s H E hr tk => w_check_text FS G_is_text hr tk
/-! Desk.tell -/
theorem sc_D_tell : FnScope ["self", "signs", "text", "before"] ["self", "signs"] (defScope (inClass (top 26) 4)) := ⟨rfl, rfl, rfl, by decide +kernel, rfl, by decide +kernel, by decide +kernel⟩
theorem w_D_tell {P : Program} {w : World} {K : PySem.W.Frag} {mg : Str → Option Value} {base : Heap} (FS : Facts K mg) (G_D_places : MtD P w K mg base "places" 3 0 F_D_places) (G_check_text : Fn P w K mg base "check_text" 4 2 F_check_text) {fa : Addr} {cdv : Value} {A : Around} {outer : List PySem.Env} {s : Shared} {H : Hp} {E : XK} (hr : Room 4 (A.deeper (envOfC "Desk.tell" (defScope (inClass (top 26) 4)) s.heap.objs.size fa cdv))) (tk : Takes (cxOf (L2.CX P w) P w K mg base ["self", "signs", "text", "before"] "Desk.tell" (defScope (inClass (top 26) 4)) fa cdv A outer s H E) (fun cls d _ H' => E cls d H')) : PSsM (cxOf (L2.CX P w) P w K mg base ["self", "signs", "text", "before"] "Desk.tell" (defScope (inClass (top 26) 4)) fa cdv A outer s H E) (fun cls d _ H' => E cls d H') (defBody (inClass (top 26) 4)) m_D_tell := by
  have sc := sc_D_tell
  exact pssm_cons (psm_expr (pm_call G_check_text hr tk (pma_cons (pm_dskO FS.dk 0) (pma_cons (pm_var 1) (pma_nil))) (cons_len (cons_len nil_len))))
      (pssm_cons (psm_set 2 (pm_ix hr.units (pm_toRef (pm_dskR FS.dk 0)) (pm_toRef (pm_neg (pm_int)))) sc.nd)
      (pssm_cons (psm_if (pmt_gt hr.units (pm_toRef (pm_add (pm_toRef (pm_len FS.b_len (pm_ref 2))) (pm_toRef (pm_len FS.b_len (pm_ref 1))))) (pm_toRef (pm_gint FS.c_MOST_TEXT)))
      (pssm_one (psm_raise0 FS.e_BadText tk))
      (pssm_nil))
      (pssm_cons (psm_set 3 (pm_len FS.b_len (pm_toRef (pm_methD0 FS.dk 0 G_D_places hr tk))) sc.nd)
      (pssm_cons (psm_dskSet FS.dk 0 (pm_tup (pma_star (pm_toRef (pm_dskR FS.dk 0)) (pma_cons (pm_tup (pma_star (pm_ref 2) (pma_star (pm_ref 1) (pma_nil)))) (pma_nil)))))
      (pssm_one (psm_ret (pm_slice (pm_toRef (pm_methD0 FS.dk 0 G_D_places hr tk)) (pmp_some (pm_var 3)) (pmp_none))))))))
theorem f_D_tell {P : Program} {w : World} {K : PySem.W.Frag} {mg : Str → Option Value} {base : Heap} {fa : Addr} {fd : FuncData} (FS : Facts K mg) (G_D_places : MtD P w K mg base "places" 3 0 F_D_places) (G_check_text : Fn P w K mg base "check_text" 4 2 F_check_text) (FD : FunD K "tell" "Desk.tell" (defArgs (inClass (top 26) 4)) (defBody (inClass (top 26) 4)) (defScope (inClass (top 26) 4)) [] [] fa fd) (hmt : Meth K (He.ga K "Desk") "tell" fa) (hb : Binds K fd ["self", "signs"] []) : MtD P w K mg base "tell" 5 1 F_D_tell := ⟨⟨fa, fd, _, fn_rawD FD sc_D_tell rfl rfl fun cdv A outer s H E hr tk => w_D_tell FS G_D_places G_check_text hr tk, hmt, hb⟩⟩
/-! _law_wrong -/
theorem sc__law_wrong : FnScope ["_law_desk", "_law_signs", "_law_told_there", "e"] ["_law_desk", "_law_signs"] (defScope (top 36)) := ⟨rfl, rfl, rfl, by decide +kernel, rfl, by decide +kernel, by decide +kernel⟩
theorem w__law_wrong {P : Program} {w : World} {K : PySem.W.Frag} {mg : Str → Option Value} {base : Heap} (FS : Facts K mg) (G_D_tell : MtD P w K mg base "tell" 5 1 F_D_tell) {fa : Addr} {cdv : Value} {A : Around} {outer : List PySem.Env} {s : Shared} {H : Hp} {E : XK} (hr : Room 5 (A.deeper (envOfC "_law_wrong" (defScope (top 36)) s.heap.objs.size fa cdv))) (tk : Takes (cxOf (L2.CX P w) P w K mg base ["_law_desk", "_law_signs", "_law_told_there", "e"] "_law_wrong" (defScope (top 36)) fa cdv A outer s H E) (fun cls d _ H' => E cls d H')) : PSsM (cxOf (L2.CX P w) P w K mg base ["_law_desk", "_law_signs", "_law_told_there", "e"] "_law_wrong" (defScope (top 36)) fa cdv A outer s H E) (fun cls d _ H' => E cls d H') (defBody (top 36)) m__law_wrong := by
  have sc := sc__law_wrong
  exact pssm_cons (psm_set 2 (pm_non) sc.nd)
      (pssm_cons (psm_try1 (i := 3) (j := 2) FS.et (by decide) tk rfl rfl (fun _ _ _ tk2 pw2 => pssm_one (psm_set 2 (pm_methD FS.dk 0 G_D_tell hr tk2 (pma_cons (pm_var 1) (pma_nil)) (cons_len nil_len)) sc.nd)) (fun _ _ _ => pm_str) (fun _ _ _ => pm_dead) FS.b_isinstance sc.nd)
      (pssm_one (psm_ret (pm_var 2))))
theorem f__law_wrong {P : Program} {w : World} {K : PySem.W.Frag} {mg : Str → Option Value} {base : Heap} {fa : Addr} {fd : FuncData} (FS : Facts K mg) (G_D_tell : MtD P w K mg base "tell" 5 1 F_D_tell) (FD : FunD K "_law_wrong" "_law_wrong" (defArgs (top 36)) (defBody (top 36)) (defScope (top 36)) [] [] fa fd) (hm : mg "_law_wrong" = some (.ref fa)) (hb : Binds K fd ["_law_desk", "_law_signs"] []) : FnD P w K mg base "_law_wrong" 6 1 F__law_wrong := ⟨⟨fa, fd, _, fn_rawD FD sc__law_wrong rfl rfl fun cdv A outer s H E hr tk => w__law_wrong FS G_D_tell hr tk, hm, FD.kp, hb⟩⟩
/-! _law_of_copy -/
theorem sc__law_of_copy : FnScope ["_law_desk", "_law_r", "_law_past", "_law_signs", "_law_due", "_law_other", "_law_now"] ["_law_desk", "_law_r", "_law_past", "_law_signs", "_law_due"] (defScope (top 38)) := ⟨rfl, rfl, rfl, by decide +kernel, rfl, by decide +kernel, by decide +kernel⟩
theorem w__law_of_copy {P : Program} {w : World} {K : PySem.W.Frag} {mg : Str → Option Value} {base : Heap} (FS : Facts K mg) (G_D_copy : CpD P w K mg base 3) (G_D_undo : MtD P w K mg base "undo" 1 0 F_D_undo) (G__law_stands : FnD P w K mg base "_law_stands" 6 2 F__law_stands) (G__law_wrong : FnD P w K mg base "_law_wrong" 6 1 F__law_wrong) {fa : Addr} {cdv : Value} {A : Around} {outer : List PySem.Env} {s : Shared} {H : Hp} {E : XK} (hr : Room 6 (A.deeper (envOfC "_law_of_copy" (defScope (top 38)) s.heap.objs.size fa cdv))) (tk : Takes (cxOf (L2.CX P w) P w K mg base ["_law_desk", "_law_r", "_law_past", "_law_signs", "_law_due", "_law_other", "_law_now"] "_law_of_copy" (defScope (top 38)) fa cdv A outer s H E) (fun cls d _ H' => E cls d H')) : PSsM (cxOf (L2.CX P w) P w K mg base ["_law_desk", "_law_r", "_law_past", "_law_signs", "_law_due", "_law_other", "_law_now"] "_law_of_copy" (defScope (top 38)) fa cdv A outer s H E) (fun cls d _ H' => E cls d H') (defBody (top 38)) m__law_of_copy := by
  have sc := sc__law_of_copy
  exact pssm_cons (psm_setD 5 (pm_copyD FS.dk 0 G_D_copy hr tk) sc.nd)
      (pssm_cons (psm_if (pmt_w (pmw_or (pmt_not (pmt_val (pm_callD 5 G__law_stands hr tk (pma_cons (pm_var 1) (pma_cons (pm_var 2) (pma_nil))) (cons_len (cons_len nil_len))))) (pmw_or (pmt_ne hr.units (pm_toRef (pm_callD 5 G__law_wrong hr tk (pma_cons (pm_var 3) (pma_nil)) (cons_len nil_len))) (pm_ref 4)) (pmw_or1 (pmt_not (pmt_val (pm_callD 0 G__law_stands hr tk (pma_cons (pm_var 1) (pma_cons (pm_var 2) (pma_nil))) (cons_len (cons_len nil_len)))))))))
      (pssm_one (psm_ret (pm_bl)))
      (pssm_nil))
      (pssm_cons (psm_set 6 (pm_ifExp (pmt_ne hr.units (pm_ref 4) (pm_toRef (pm_str))) (pm_add (pm_ref 2) (pm_toRef (pm_give (pmo_lst (pma_cons (pm_add (pm_toRef (pm_ix hr.units (pm_ref 2) (pm_toRef (pm_neg (pm_int))))) (pm_ref 3)) (pma_nil)))))) (pm_var 2)) sc.nd)
      (pssm_cons (psm_if (pmt_w (pmw_or (pmt_not (pmt_val (pm_callD 5 G__law_stands hr tk (pma_cons (pm_var 1) (pma_cons (pm_var 6) (pma_nil))) (cons_len (cons_len nil_len))))) (pmw_or1 (pmt_ne hr.units (pm_toRef (pm_methD0 FS.dk 5 G_D_undo hr tk)) (pm_toRef (pm_gt hr.units (pm_toRef (pm_len FS.b_len (pm_ref 6))) (pm_toRef (pm_int))))))))
      (pssm_one (psm_ret (pm_bl)))
      (pssm_nil))
      (pssm_one (psm_ret (pm_and (pm_callD 5 G__law_stands hr tk (pma_cons (pm_var 1) (pma_cons (pm_slice (pm_ref 6) (pmp_none) (pmp_some (pm_max2 FS.b_max (pma_cons (pm_int) (pma_cons (pm_sub (pm_toRef (pm_len FS.b_len (pm_ref 6))) (pm_toRef (pm_int))) (pma_nil)))))) (pma_nil))) (cons_len (cons_len nil_len))) (pm_one (pm_callD 0 G__law_stands hr tk (pma_cons (pm_var 1) (pma_cons (pm_var 2) (pma_nil))) (cons_len (cons_len nil_len))))))))))
theorem f__law_of_copy {P : Program} {w : World} {K : PySem.W.Frag} {mg : Str → Option Value} {base : Heap} {fa : Addr} {fd : FuncData} (FS : Facts K mg) (G_D_copy : CpD P w K mg base 3) (G_D_undo : MtD P w K mg base "undo" 1 0 F_D_undo) (G__law_stands : FnD P w K mg base "_law_stands" 6 2 F__law_stands) (G__law_wrong : FnD P w K mg base "_law_wrong" 6 1 F__law_wrong) (FD : FunD K "_law_of_copy" "_law_of_copy" (defArgs (top 38)) (defBody (top 38)) (defScope (top 38)) [] [] fa fd) (hm : mg "_law_of_copy" = some (.ref fa)) (hb : Binds K fd ["_law_desk", "_law_r", "_law_past", "_law_signs", "_law_due"] []) : FnD P w K mg base "_law_of_copy" 7 4 F__law_of_copy := ⟨⟨fa, fd, _, fn_rawD FD sc__law_of_copy rfl rfl fun cdv A outer s H E hr tk => w__law_of_copy FS G_D_copy G_D_undo G__law_stands G__law_wrong hr tk, hm, FD.kp, hb⟩⟩
/-! _law_words -/
theorem sc__law_words : FnScope ["_law_signs", "_law_window", "_law_found", "_law_k", "_law_longer", "_law_one", "_law_sign"] ["_law_signs", "_law_window"] (defScope (top 30)) := ⟨rfl, rfl, rfl, by decide +kernel, rfl, by decide +kernel, by decide +kernel⟩
theorem w__law_words {P : Program} {w : World} {K : PySem.W.Frag} {mg : Str → Option Value} {base : Heap} (FS : Facts K mg) {fa : Addr} {cdv : Value} {A : Around} {outer : List PySem.Env} {s : Shared} {H : Hp} {E : XK} (hr : Room 0 (A.deeper (envOfC "_law_words" (defScope (top 30)) s.heap.objs.size fa cdv))) (tk : Takes (cxOf (L2.CX P w) P w K mg base ["_law_signs", "_law_window", "_law_found", "_law_k", "_law_longer", "_law_one", "_law_sign"] "_law_words" (defScope (top 30)) fa cdv A outer s H E) (fun cls d _ H' => E cls d H')) : PSsM (cxOf (L2.CX P w) P w K mg base ["_law_signs", "_law_window", "_law_found", "_law_k", "_law_longer", "_law_one", "_law_sign"] "_law_words" (defScope (top 30)) fa cdv A outer s H E) (fun cls d _ H' => E cls d H') (defBody (top 30)) m__law_words := by
  have sc := sc__law_words
  exact pssm_cons (psm_set 2 (pm_give (pmo_lst (pma_cons (pm_tup (pma_nil)) (pma_nil)))) sc.nd)
      (pssm_cons (psm_for PassesOwn.leaving rfl (pim_range1 FS.b_range (pma_cons (pm_var 1) (pma_nil))) (pgm_name 3 sc.nd) (gN_quiet 3)
      (pssm_cons (psm_set 4 (pm_give (pmo_lst (pma_nil))) sc.nd)
      (pssm_cons (psm_for PassesOwn.leaving rfl (pim_items (pm_var 2)) (pgm_name 5 sc.nd) (gN_quiet 5)
      (pssm_one (psm_set 4 (pm_add (pm_ref 4) (pm_toRef (pm_give (pmo_lc (pim_range1 FS.b_range (pma_cons (pm_var 0) (pma_nil))) (fun _ _ _ _ _ => pgm_name 6 sc.nd) (fun _ _ _ _ _ => pmts_nil) (fun _ _ _ _ _ => pm_add (pm_ref 5) (pm_toRef (pm_tup (pma_cons (pm_var 6) (pma_nil))))) rfl sc.nd [("_law_sign", 6)])))) sc.nd)))
      (pssm_one (psm_set 2 (pm_var 4) sc.nd)))))
      (pssm_one (psm_ret (pm_var 2))))
theorem f__law_words {P : Program} {w : World} {K : PySem.W.Frag} {mg : Str → Option Value} {base : Heap} {fa : Addr} {fd : FuncData} (FS : Facts K mg) (FD : FunD K "_law_words" "_law_words" (defArgs (top 30)) (defBody (top 30)) (defScope (top 30)) [] [] fa fd) (hm : mg "_law_words" = some (.ref fa)) (hb : Binds K fd ["_law_signs", "_law_window"] []) : Fn P w K mg base "_law_words" 1 2 F__law_words := fn_ok FD sc__law_words hm hb rfl rfl fun cdv A outer s H E hr tk => w__law_words FS hr tk
/-! _law_rule -/
theorem sc__law_rule : FnScope ["_law_row", "_law_signs", "_law_window", "_law_most", "_law_many", "_law_wide", "_law_thin", "_law_words_here", "_law_least", "_law_high", "_law_word"] ["_law_row", "_law_signs", "_law_window", "_law_most"] (defScope (top 31)) := ⟨rfl, rfl, rfl, by decide +kernel, rfl, by decide +kernel, by decide +kernel⟩
theorem w__law_rule {P : Program} {w : World} {K : PySem.W.Frag} {mg : Str → Option Value} {base : Heap} (FS : Facts K mg) (G__law_pick : Fn P w K mg base "_law_pick" 1 2 F__law_pick) (G__law_words : Fn P w K mg base "_law_words" 1 2 F__law_words) {fa : Addr} {cdv : Value} {A : Around} {outer : List PySem.Env} {s : Shared} {H : Hp} {E : XK} (hr : Room 1 (A.deeper (envOfC "_law_rule" (defScope (top 31)) s.heap.objs.size fa cdv))) (tk : Takes (cxOf (L2.CX P w) P w K mg base ["_law_row", "_law_signs", "_law_window", "_law_most", "_law_many", "_law_wide", "_law_thin", "_law_words_here", "_law_least", "_law_high", "_law_word"] "_law_rule" (defScope (top 31)) fa cdv A outer s H E) (fun cls d _ H' => E cls d H')) : PSsM (cxOf (L2.CX P w) P w K mg base ["_law_row", "_law_signs", "_law_window", "_law_most", "_law_many", "_law_wide", "_law_thin", "_law_words_here", "_law_least", "_law_high", "_law_word"] "_law_rule" (defScope (top 31)) fa cdv A outer s H E) (fun cls d _ H' => E cls d H') (defBody (top 31)) m__law_rule := by
  have sc := sc__law_rule
  exact pssm_cons (psm_set 4 (pm_add (pm_toRef (pm_int)) (pm_toRef (pm_mul (pm_toRef (pm_toInt FS.b_int (pm_toRef (pm_eq hr.units (pm_toRef (pm_call G__law_pick hr tk (pma_cons (pm_var 0) (pma_cons (pm_int) (pma_nil))) (cons_len (cons_len nil_len)))) (pm_toRef (pm_int)))))) (pm_toRef (pm_sub (pm_ref 1) (pm_toRef (pm_int))))))) sc.nd)
      (pssm_cons (psm_set 5 (pm_add (pm_toRef (pm_int)) (pm_toRef (pm_call G__law_pick hr tk (pma_cons (pm_var 0) (pma_cons (pm_var 2) (pma_nil))) (cons_len (cons_len nil_len))))) sc.nd)
      (pssm_cons (psm_set 6 (pm_add (pm_toRef (pm_int)) (pm_toRef (pm_call G__law_pick hr tk (pma_cons (pm_var 0) (pma_cons (pm_int) (pma_nil))) (cons_len (cons_len nil_len))))) sc.nd)
      (pssm_cons (psm_set 7 (pm_tupleOf FS.b_tuple (by decide +kernel) (pm_toRef (pm_give (pmo_lc (pim_items (pm_call G__law_words hr tk (pma_cons (pm_var 4) (pma_cons (pm_var 5) (pma_nil))) (cons_len (cons_len nil_len)))) (fun _ _ _ _ _ => pgm_name 10 sc.nd) (fun _ _ _ _ _ => pmts_one (pmt_eq hr.units (pm_toRef (pm_call G__law_pick hr takes0 (pma_cons (pm_var 0) (pma_cons (pm_var 6) (pma_nil))) (cons_len (cons_len nil_len)))) (pm_toRef (pm_int)))) (fun _ _ _ _ _ => pm_var 10) rfl sc.nd [("_law_word", 10)])))) sc.nd)
      (pssm_cons (psm_set 8 (pm_add (pm_toRef (pm_int)) (pm_toRef (pm_call G__law_pick hr tk (pma_cons (pm_var 0) (pma_cons (pm_int) (pma_nil))) (cons_len (cons_len nil_len))))) sc.nd)
      (pssm_cons (psm_set 9 (pm_add (pm_ref 8) (pm_toRef (pm_call G__law_pick hr tk (pma_cons (pm_var 0) (pma_cons (pm_sub (pm_ref 3) (pm_toRef (pm_int))) (pma_nil))) (cons_len (cons_len nil_len))))) sc.nd)
      (pssm_one (psm_ret (pm_tup (pma_cons (pm_var 4) (pma_cons (pm_var 5) (pma_cons (pm_var 7) (pma_cons (pm_var 8) (pma_cons (pm_ix hr.units (pm_toRef (pm_give (pmo_lst (pma_cons (pm_non) (pma_cons (pm_var 9) (pma_nil)))))) (pm_toRef (pm_call G__law_pick hr tk (pma_cons (pm_var 0) (pma_cons (pm_int) (pma_nil))) (cons_len (cons_len nil_len))))) (pma_nil))))))))))))))
theorem f__law_rule {P : Program} {w : World} {K : PySem.W.Frag} {mg : Str → Option Value} {base : Heap} {fa : Addr} {fd : FuncData} (FS : Facts K mg) (G__law_pick : Fn P w K mg base "_law_pick" 1 2 F__law_pick) (G__law_words : Fn P w K mg base "_law_words" 1 2 F__law_words) (FD : FunD K "_law_rule" "_law_rule" (defArgs (top 31)) (defBody (top 31)) (defScope (top 31)) [] [] fa fd) (hm : mg "_law_rule" = some (.ref fa)) (hb : Binds K fd ["_law_row", "_law_signs", "_law_window", "_law_most"] []) : Fn P w K mg base "_law_rule" 2 4 F__law_rule := fn_ok FD sc__law_rule hm hb rfl rfl fun cdv A outer s H E hr tk => w__law_rule FS G__law_pick G__law_words hr tk
/-! _law_text -/
theorem sc__law_text : FnScope ["_law_row", "_law_r", "_law_most", "_law_k"] ["_law_row", "_law_r", "_law_most"] (defScope (top 34)) := ⟨rfl, rfl, rfl, by decide +kernel, rfl, by decide +kernel, by decide +kernel⟩
theorem w__law_text {P : Program} {w : World} {K : PySem.W.Frag} {mg : Str → Option Value} {base : Heap} (FS : Facts K mg) (G__law_pick : Fn P w K mg base "_law_pick" 1 2 F__law_pick) {fa : Addr} {cdv : Value} {A : Around} {outer : List PySem.Env} {s : Shared} {H : Hp} {E : XK} (hr : Room 1 (A.deeper (envOfC "_law_text" (defScope (top 34)) s.heap.objs.size fa cdv))) (tk : Takes (cxOf (L2.CX P w) P w K mg base ["_law_row", "_law_r", "_law_most", "_law_k"] "_law_text" (defScope (top 34)) fa cdv A outer s H E) (fun cls d _ H' => E cls d H')) : PSsM (cxOf (L2.CX P w) P w K mg base ["_law_row", "_law_r", "_law_most", "_law_k"] "_law_text" (defScope (top 34)) fa cdv A outer s H E) (fun cls d _ H' => E cls d H') (defBody (top 34)) m__law_text := by
  have sc := sc__law_text
  exact pssm_one (psm_ret (pm_tupleOf FS.b_tuple (by decide +kernel) (pm_toRef (pm_give (pmo_lc (pim_range1 FS.b_range (pma_cons (pm_call G__law_pick hr tk (pma_cons (pm_var 0) (pma_cons (pm_add (pm_ref 2) (pm_toRef (pm_int))) (pma_nil))) (cons_len (cons_len nil_len))) (pma_nil))) (fun _ _ _ _ _ => pgm_name 3 sc.nd) (fun _ _ _ _ _ => pmts_nil) (fun _ _ _ _ _ => pm_call G__law_pick hr takes0 (pma_cons (pm_var 0) (pma_cons (pm_ix hr.units (pm_ref 1) (pm_toRef (pm_int))) (pma_nil))) (cons_len (cons_len nil_len))) rfl sc.nd [("_law_k", 3)])))))
theorem f__law_text {P : Program} {w : World} {K : PySem.W.Frag} {mg : Str → Option Value} {base : Heap} {fa : Addr} {fd : FuncData} (FS : Facts K mg) (G__law_pick : Fn P w K mg base "_law_pick" 1 2 F__law_pick) (FD : FunD K "_law_text" "_law_text" (defArgs (top 34)) (defBody (top 34)) (defScope (top 34)) [] [] fa fd) (hm : mg "_law_text" = some (.ref fa)) (hb : Binds K fd ["_law_row", "_law_r", "_law_most"] []) : Fn P w K mg base "_law_text" 2 3 F__law_text := fn_ok FD sc__law_text hm hb rfl rfl fun cdv A outer s H E hr tk => w__law_text FS G__law_pick hr tk
/-! law -/
theorem sc_law : FnScope ["_law_script", "_law_row", "_law_r", "_law_turn", "_law_rest", "_law_due", "_law_desk", "_law_past", "_law_text_here", "_law_ends", "_law_turn_of", "_law_signs", "_law_place", "_law_elder"] ["_law_script"] (defScope (top 39)) := ⟨rfl, rfl, rfl, by decide +kernel, rfl, by decide +kernel, by decide +kernel⟩
theorem w_law {P : Program} {w : World} {K : PySem.W.Frag} {mg : Str → Option Value} {base : Heap} (FS : Facts K mg) (G_D___len__ : MtD P w K mg base "__len__" 1 0 F_D___len__) (G_D_copy : CpD P w K mg base 3) (G_D_places : MtD P w K mg base "places" 3 0 F_D_places) (G_D_rule : GtDk P w K mg base "rule" 1 F_D_rule) (G_D_text : GtDk P w K mg base "text" 1 F_D_text) (G_D_undo : MtD P w K mg base "undo" 1 0 F_D_undo) (G_D_waits : MtD P w K mg base "waits" 4 0 F_D_waits) (G_Desk : MkDk P w K mg base 1) (G__law_cuts : Fn P w K mg base "_law_cuts" 1 2 F__law_cuts) (G__law_made : Fn P w K mg base "_law_made" 5 1 F__law_made) (G__law_odd_text : Fn P w K mg base "_law_odd_text" 2 2 F__law_odd_text) (G__law_of_copy : FnD P w K mg base "_law_of_copy" 7 4 F__law_of_copy) (G__law_pick : Fn P w K mg base "_law_pick" 1 2 F__law_pick) (G__law_rule : Fn P w K mg base "_law_rule" 2 4 F__law_rule) (G__law_stands : FnD P w K mg base "_law_stands" 6 2 F__law_stands) (G__law_text : Fn P w K mg base "_law_text" 2 3 F__law_text) (G__law_wrong : FnD P w K mg base "_law_wrong" 6 1 F__law_wrong) (G_eq : EqFn P w K mg base 2 F_eq) {fa : Addr} {cdv : Value} {A : Around} {outer : List PySem.Env} {s : Shared} {H : Hp} {E : XK} (hr : Room 7 (A.deeper (envOfC "law" (defScope (top 39)) s.heap.objs.size fa cdv))) (tk : Takes (cxOf (L2.CX P w) P w K mg base ["_law_script", "_law_row", "_law_r", "_law_turn", "_law_rest", "_law_due", "_law_desk", "_law_past", "_law_text_here", "_law_ends", "_law_turn_of", "_law_signs", "_law_place", "_law_elder"] "law" (defScope (top 39)) fa cdv A outer s H E) (fun cls d _ H' => E cls d H')) : PSsM (cxOf (L2.CX P w) P w K mg base ["_law_script", "_law_row", "_law_r", "_law_turn", "_law_rest", "_law_due", "_law_desk", "_law_past", "_law_text_here", "_law_ends", "_law_turn_of", "_law_signs", "_law_place", "_law_elder"] "law" (defScope (top 39)) fa cdv A outer s H E) (fun cls d _ H' => E cls d H') ((defBody (top 39)).tail) m_law := by
  have sc := sc_law
  exact pssm_cons (psm_set 2 (pm_call G__law_rule hr tk (pma_cons (pm_var 1) (pma_cons (pm_int) (pma_cons (pm_int) (pma_cons (pm_int) (pma_nil))))) (cons_len (cons_len (cons_len (cons_len nil_len))))) sc.nd)
      (pssm_cons (psm_parDC 6 7 (pm_newD G_Desk hr tk (pm_call G__law_made hr tk (pma_cons (pm_var 2) (pma_nil)) (cons_len nil_len))) (pm_give (pmo_lst (pma_cons (pm_tup (pma_nil)) (pma_nil)))) sc.nd)
      (pssm_cons (psm_for PassesOwn.leaving rfl (pim_range1 FS.b_range (pma_cons (pm_call G__law_pick hr tk (pma_cons (pm_var 1) (pma_cons (pm_int) (pma_nil))) (cons_len (cons_len nil_len))) (pma_nil))) (pgm_name 3 sc.nd) (gN_quiet 3)
      (pssm_cons (psm_par2 10 11 (pml_val (pm_call G__law_pick hr tk (pma_cons (pm_var 1) (pma_cons (pm_int) (pma_nil))) (cons_len (cons_len nil_len))) (pml_val (pm_call G__law_text hr tk (pma_cons (pm_var 1) (pma_cons (pm_var 2) (pma_cons (pm_ix hr.units (pm_toRef (pm_give (pmo_lst (pma_cons (pm_int) (pma_cons (pm_int) (pma_cons (pm_int) (pma_nil))))))) (pm_toRef (pm_call G__law_pick hr tk (pma_cons (pm_var 1) (pma_cons (pm_int) (pma_nil))) (cons_len (cons_len nil_len))))) (pma_nil)))) (cons_len (cons_len (cons_len nil_len)))) (pml_nil))) sc.nd)
      (pssm_cons (psm_set 8 (pm_add (pm_toRef (pm_ix hr.units (pm_ref 7) (pm_toRef (pm_neg (pm_int))))) (pm_ref 11)) sc.nd)
      (pssm_cons (psm_set 5 (pm_str) sc.nd)
      (pssm_cons (psm_if (pmt_le hr.units (pm_toRef (pm_len FS.b_len (pm_ref 8))) (pm_toRef (pm_int)))
      (pssm_one (psm_setLc 5 (pim_items (pm_call G__law_cuts hr tk (pma_cons (pm_var 2) (pma_cons (pm_var 8) (pma_nil))) (cons_len (cons_len nil_len)))) (fun _ _ _ _ _ => pgm_name 12 sc.nd) (fun _ _ _ _ _ => pmts_one (pmt_gt hr.units (pm_ref 12) (pm_toRef (pm_len FS.b_len (pm_toRef (pm_ix hr.units (pm_ref 7) (pm_toRef (pm_neg (pm_int))))))))) (fun _ _ _ _ _ => pm_var 12) rfl sc.nd [("_law_place", 12)]))
      (pssm_nil))
      (pssm_cons (psm_if (pmt_eq hr.units (pm_ref 10) (pm_toRef (pm_int)))
      (pssm_cons (psm_if (pmt_ne hr.units (pm_toRef (pm_methD0 FS.dk 6 G_D_undo hr tk)) (pm_toRef (pm_gt hr.units (pm_toRef (pm_len FS.b_len (pm_ref 7))) (pm_toRef (pm_int)))))
      (pssm_one (psm_ret (pm_bl)))
      (pssm_nil))
      (pssm_one (psm_set 7 (pm_ifExp (pmt_gt hr.units (pm_toRef (pm_len FS.b_len (pm_ref 7))) (pm_toRef (pm_int))) (pm_slice (pm_ref 7) (pmp_none) (pmp_some (pm_neg (pm_int)))) (pm_var 7)) sc.nd)))
      (pssm_one (psm_if (pmt_eq hr.units (pm_ref 10) (pm_toRef (pm_int)))
      (pssm_one (psm_if (pmt_not (pmt_val (pm_callD 6 G__law_of_copy hr tk (pma_cons (pm_var 2) (pma_cons (pm_var 7) (pma_cons (pm_var 11) (pma_cons (pm_var 5) (pma_nil))))) (cons_len (cons_len (cons_len (cons_len nil_len)))))))
      (pssm_one (psm_ret (pm_bl)))
      (pssm_nil)))
      (pssm_cons (psm_setD 13 (pm_copyD FS.dk 6 G_D_copy hr tk) sc.nd)
      (pssm_cons (psm_if (pmt_w (pmw_or (pmt_ne hr.units (pm_toRef (pm_callD 6 G__law_wrong hr tk (pma_cons (pm_var 11) (pma_nil)) (cons_len nil_len))) (pm_ref 5)) (pmw_or1 (pmt_not (pmt_val (pm_callD 13 G__law_stands hr tk (pma_cons (pm_var 2) (pma_cons (pm_var 7) (pma_nil))) (cons_len (cons_len nil_len))))))))
      (pssm_one (psm_ret (pm_bl)))
      (pssm_nil))
      (pssm_one (psm_set 7 (pm_ifExp (pmt_ne hr.units (pm_ref 5) (pm_toRef (pm_str))) (pm_add (pm_ref 7) (pm_toRef (pm_give (pmo_lst (pma_cons (pm_var 8) (pma_nil)))))) (pm_var 7)) sc.nd)))))))
      (pssm_cons (psm_if (pmt_ne hr.units (pm_toRef (pm_callD 6 G__law_wrong hr tk (pma_cons (pm_call G__law_odd_text hr tk (pma_cons (pm_var 1) (pma_cons (pm_var 2) (pma_nil))) (cons_len (cons_len nil_len))) (pma_nil)) (cons_len nil_len))) (pm_toRef (pm_str)))
      (pssm_one (psm_ret (pm_bl)))
      (pssm_nil))
      (pssm_cons (psm_set 9 (pm_call G__law_cuts hr tk (pma_cons (pm_var 2) (pma_cons (pm_ix hr.units (pm_ref 7) (pm_toRef (pm_neg (pm_int)))) (pma_nil))) (cons_len (cons_len nil_len))) sc.nd)
      (pssm_cons (psm_if (pmt_w (pmw_or (pmt_ne hr.units (pm_toRef (pm_methD0 FS.dk 6 G_D_places hr tk)) (pm_ref 9)) (pmw_or1 (pmt_ne hr.units (pm_toRef (pm_methD0 FS.dk 6 G_D_waits hr tk)) (pm_toRef (pm_slice (pm_toRef (pm_ix hr.units (pm_ref 7) (pm_toRef (pm_neg (pm_int))))) (pmp_some (pm_ix hr.units (pm_toRef (pm_add (pm_toRef (pm_give (pmo_lst (pma_cons (pm_int) (pma_nil))))) (pm_ref 9))) (pm_toRef (pm_neg (pm_int))))) (pmp_none)))))))
      (pssm_one (psm_ret (pm_bl)))
      (pssm_nil))
      (pssm_one (psm_if (pmt_w (pmw_or (pmt_ne hr.units (pm_toRef (pm_propD FS.dk 6 G_D_text hr)) (pm_toRef (pm_ix hr.units (pm_ref 7) (pm_toRef (pm_neg (pm_int)))))) (pmw_or (pmt_neO G_eq hr (pm_toRef (pm_propD FS.dk 6 G_D_rule hr)) (pm_toRef (pm_call G__law_made hr tk (pma_cons (pm_var 2) (pma_nil)) (cons_len nil_len)))) (pmw_or1 (pmt_ne hr.units (pm_toRef (pm_lenD 6 G_D___len__ hr FS.b_len)) (pm_toRef (pm_sub (pm_toRef (pm_len FS.b_len (pm_ref 7))) (pm_toRef (pm_int)))))))))
      (pssm_one (psm_ret (pm_bl)))
      (pssm_nil))))))))))))
      (pssm_cons (psm_set 4 (pm_mul (pm_toRef (pm_tup (pma_cons (pm_int) (pma_nil)))) (pm_toRef (pm_sub (pm_toRef (pm_int)) (pm_toRef (pm_len FS.b_len (pm_toRef (pm_ix hr.units (pm_ref 7) (pm_toRef (pm_neg (pm_int)))))))))) sc.nd)
      (pssm_cons (psm_setLc 5 (pim_items (pm_call G__law_cuts hr tk (pma_cons (pm_var 2) (pma_cons (pm_add (pm_toRef (pm_ix hr.units (pm_ref 7) (pm_toRef (pm_neg (pm_int))))) (pm_ref 4)) (pma_nil))) (cons_len (cons_len nil_len)))) (fun _ _ _ _ _ => pgm_name 12 sc.nd) (fun _ _ _ _ _ => pmts_one (pmt_gt hr.units (pm_ref 12) (pm_toRef (pm_len FS.b_len (pm_toRef (pm_ix hr.units (pm_ref 7) (pm_toRef (pm_neg (pm_int))))))))) (fun _ _ _ _ _ => pm_var 12) rfl sc.nd [("_law_place", 12)])
      (pssm_one (psm_ret (pm_and (pm_eq hr.units (pm_toRef (pm_callD 6 G__law_wrong hr tk (pma_cons (pm_var 4) (pma_nil)) (cons_len nil_len))) (pm_ref 5)) (pm_one (pm_eq hr.units (pm_toRef (pm_callD 6 G__law_wrong hr tk (pma_cons (pm_tup (pma_cons (pm_int) (pma_nil))) (pma_nil)) (cons_len nil_len))) (pm_toRef (pm_str)))))))))))
def d_is_from : He.DefD := ⟨("is_from", none), "is_from", "is_from", defArgs (top 14), defBody (top 14), defScope (top 14), [], []⟩
def d_is_word : He.DefD := ⟨("is_word", none), "is_word", "is_word", defArgs (top 15), defBody (top 15), defScope (top 15), [], []⟩
def d_check_shape : He.DefD := ⟨("check_shape", none), "check_shape", "check_shape", defArgs (top 16), defBody (top 16), defScope (top 16), [], []⟩
def d_check_lengths : He.DefD := ⟨("check_lengths", none), "check_lengths", "check_lengths", defArgs (top 17), defBody (top 17), defScope (top 17), [], []⟩
def d_parts_of : He.DefD := ⟨("parts_of", none), "parts_of", "parts_of", defArgs (top 19), defBody (top 19), defScope (top 19), [], []⟩
def d_are_signs : He.DefD := ⟨("are_signs", none), "are_signs", "are_signs", defArgs (top 20), defBody (top 20), defScope (top 20), [], []⟩
def d_is_text : He.DefD := ⟨("is_text", none), "is_text", "is_text", defArgs (top 21), defBody (top 21), defScope (top 21), [], []⟩
def d_check_text : He.DefD := ⟨("check_text", none), "check_text", "check_text", defArgs (top 22), defBody (top 22), defScope (top 22), [], []⟩
def d_step_of : He.DefD := ⟨("step_of", none), "step_of", "step_of", defArgs (top 23), defBody (top 23), defScope (top 23), [], []⟩
def d_cuts_of : He.DefD := ⟨("cuts_of", none), "cuts_of", "cuts_of", defArgs (top 24), defBody (top 24), defScope (top 24), [], []⟩
def d__law_draws : He.DefD := ⟨("_law_draws", none), "_law_draws", "_law_draws", defArgs (top 28), defBody (top 28), defScope (top 28), [], []⟩
def d__law_pick : He.DefD := ⟨("_law_pick", none), "_law_pick", "_law_pick", defArgs (top 29), defBody (top 29), defScope (top 29), [], []⟩
def d__law_words : He.DefD := ⟨("_law_words", none), "_law_words", "_law_words", defArgs (top 30), defBody (top 30), defScope (top 30), [], []⟩
def d__law_rule : He.DefD := ⟨("_law_rule", none), "_law_rule", "_law_rule", defArgs (top 31), defBody (top 31), defScope (top 31), [], []⟩
def d__law_made : He.DefD := ⟨("_law_made", none), "_law_made", "_law_made", defArgs (top 32), defBody (top 32), defScope (top 32), [], []⟩
def d__law_cuts : He.DefD := ⟨("_law_cuts", none), "_law_cuts", "_law_cuts", defArgs (top 33), defBody (top 33), defScope (top 33), [], []⟩
def d__law_text : He.DefD := ⟨("_law_text", none), "_law_text", "_law_text", defArgs (top 34), defBody (top 34), defScope (top 34), [], []⟩
def d__law_odd_text : He.DefD := ⟨("_law_odd_text", none), "_law_odd_text", "_law_odd_text", defArgs (top 35), defBody (top 35), defScope (top 35), [], []⟩
def d__law_wrong : He.DefD := ⟨("_law_wrong", none), "_law_wrong", "_law_wrong", defArgs (top 36), defBody (top 36), defScope (top 36), [], []⟩
def d__law_stands : He.DefD := ⟨("_law_stands", none), "_law_stands", "_law_stands", defArgs (top 37), defBody (top 37), defScope (top 37), [], []⟩
def d__law_of_copy : He.DefD := ⟨("_law_of_copy", none), "_law_of_copy", "_law_of_copy", defArgs (top 38), defBody (top 38), defScope (top 38), [], []⟩
def d_law : He.DefD := ⟨("law", none), "law", "law", defArgs (top 39), defBody (top 39), defScope (top 39), [], []⟩
def d_Rule : He.DefD := ⟨("Rule", some "__init__"), "__init__", "Rule.__init__", defArgs (inClass (top 18) 0), defBody (inClass (top 18) 0), defScope (inClass (top 18) 0), [], []⟩
def d_eq : He.DefD := ⟨("Rule", some "__eq__"), "__eq__", "Rule.__eq__", defArgs (inClass (top 18) 6), defBody (inClass (top 18) 6), defScope (inClass (top 18) 6), [], []⟩
def d_D___len__ : He.DefD := ⟨("Desk", some "__len__"), "__len__", "Desk.__len__", defArgs (inClass (top 26) 8), defBody (inClass (top 26) 8), defScope (inClass (top 26) 8), [], []⟩
def d_Desk : He.DefD := ⟨("Desk", some "__init__"), "__init__", "Desk.__init__", defArgs (inClass (top 26) 0), defBody (inClass (top 26) 0), defScope (inClass (top 26) 0), [], []⟩
def d_D_copy : He.DefD := ⟨("Desk", some "copy"), "copy", "Desk.copy", defArgs (inClass (top 26) 7), defBody (inClass (top 26) 7), defScope (inClass (top 26) 7), [], []⟩
def d_D_places : He.DefD := ⟨("Desk", some "places"), "places", "Desk.places", defArgs (inClass (top 26) 3), defBody (inClass (top 26) 3), defScope (inClass (top 26) 3), [], []⟩
def d_D_undo : He.DefD := ⟨("Desk", some "undo"), "undo", "Desk.undo", defArgs (inClass (top 26) 6), defBody (inClass (top 26) 6), defScope (inClass (top 26) 6), [], []⟩
def d_D_waits : He.DefD := ⟨("Desk", some "waits"), "waits", "Desk.waits", defArgs (inClass (top 26) 5), defBody (inClass (top 26) 5), defScope (inClass (top 26) 5), [], []⟩
def d_D_tell : He.DefD := ⟨("Desk", some "tell"), "tell", "Desk.tell", defArgs (inClass (top 26) 4), defBody (inClass (top 26) 4), defScope (inClass (top 26) 4), [], []⟩
def g_D_rule : GtD := ⟨("Desk", "rule"), "rule", "Desk.rule", defArgs (inClass (top 26) 1), defBody (inClass (top 26) 1), defScope (inClass (top 26) 1)⟩
def g_D_text : GtD := ⟨("Desk", "text"), "text", "Desk.text", defArgs (inClass (top 26) 2), defBody (inClass (top 26) 2), defScope (inClass (top 26) 2)⟩
def gts : List GtD := [g_D_rule, g_D_text]
def d_BadWords : He.DefD := ⟨("BadWords", some "__init__"), "__init__", "BadWords.__init__", defArgs (inClass (top 6) 0), defBody (inClass (top 6) 0), defScope (inClass (top 6) 0), [], []⟩
def fn : List He.DefD := [d_is_from, d_is_word, d_check_shape, d_check_lengths, d_parts_of, d_are_signs, d_is_text, d_check_text, d_step_of, d_cuts_of, d__law_draws, d__law_pick, d__law_words, d__law_rule, d__law_made, d__law_cuts, d__law_text, d__law_odd_text, d__law_wrong, d__law_stands, d__law_of_copy, d_law, d_Rule, d_eq, d_D___len__, d_Desk, d_D_copy, d_D_places, d_D_undo, d_D_waits, d_D_tell, d_BadWords]
def fa : List He.Fa := [.glo "is_from", .glo "is_word", .glo "check_shape", .glo "check_lengths", .glo "parts_of", .glo "are_signs", .glo "is_text", .glo "check_text", .glo "step_of", .glo "cuts_of", .glo "_law_draws", .glo "_law_pick", .glo "_law_words", .glo "_law_rule", .glo "_law_made", .glo "_law_cuts", .glo "_law_text", .glo "_law_odd_text", .glo "_law_wrong", .glo "_law_stands", .glo "_law_of_copy", .glo "law", .glo "CutError", .glo "BadSigns", .glo "BadWindow", .glo "BadLengths", .glo "BadText", .glo "BadWords", .glo "Rule", .glo "Desk", .free "all", .free "bool", .free "enumerate", .free "int", .free "isinstance", .free "len", .free "list", .free "max", .free "min", .free "range", .free "tuple", .int "MOST_LEAST" 6, .int "MOST_LENGTH" 8, .int "MOST_SIGNS" 3, .int "MOST_TEXT" 400, .int "MOST_WINDOW" 3, .cls "Rule", .cls "Desk", .noat "Desk" "own", .noat "Desk" "rows", .exc "BadLengths", .exc "BadSigns", .exc "BadText", .exc "BadWindow", .glo "BEGIN", .noat "Rule" "high", .noat "Rule" "low", .noat "Rule" "many", .noat "Rule" "rows", .noat "Rule" "wide", .mkr "Rule", .meth "Desk" "__len__", .mkr "Desk", .meth "Desk" "copy", .meth "Desk" "places", .meth "Desk" "undo", .meth "Desk" "waits", .meth "Desk" "tell"]
def tys : List String := ["bool", "int", "tuple"]
def ks : List (Str × D) := [("BEGIN", .tup [.tup [], .int 0])]
def xcs : List (Str × List Str) := [("BadWords", ["index"])]
def exA0 (K : PySem.W.Frag) : Bool := exB errs tys ks K && xcs.all fun p => xB K p.1 p.2
def exA (K : PySem.W.Frag) : Bool := exA0 K && eqB2 K
theorem facts_of {K : PySem.W.Frag} {h : Heap} {mg : Str → Option Value} (KX : K.In h) (G : h.Ns mainGlobals mg) (c : He.SaysD fa fn K) (hx0 : exA K = true) : Facts K mg :=
  have hx : exA0 K = true := (Bool.and_eq_true_iff.mp hx0).1
  have hxx : ∀ p ∈ xcs, xB K p.1 p.2 = true := List.all_eq_true.mp (Bool.and_eq_true_iff.mp hx).2
  have E := ex_of (Bool.and_eq_true_iff.mp hx).1
  { b_all := He.free_ok KX G (c.fact 30 rfl),
    b_bool := He.free_ok KX G (c.fact 31 rfl),
    b_enumerate := He.free_ok KX G (c.fact 32 rfl),
    b_int := He.free_ok KX G (c.fact 33 rfl),
    b_isinstance := He.free_ok KX G (c.fact 34 rfl),
    b_len := He.free_ok KX G (c.fact 35 rfl),
    b_list := He.free_ok KX G (c.fact 36 rfl),
    b_max := He.free_ok KX G (c.fact 37 rfl),
    b_min := He.free_ok KX G (c.fact 38 rfl),
    b_range := He.free_ok KX G (c.fact 39 rfl),
    b_tuple := He.free_ok KX G (c.fact 40 rfl),
    c_MOST_LEAST := He.int_ok KX G (c.fact 41 rfl),
    c_MOST_LENGTH := He.int_ok KX G (c.fact 42 rfl),
    c_MOST_SIGNS := He.int_ok KX G (c.fact 43 rfl),
    c_MOST_TEXT := He.int_ok KX G (c.fact 44 rfl),
    c_MOST_WINDOW := He.int_ok KX G (c.fact 45 rfl),
    cl := He.cls_ok (c.fact 46 rfl),
    dk := ⟨He.cls_ok (c.fact 47 rfl), He.noat_ok (c.fact 48 rfl), He.noat_ok (c.fact 49 rfl)⟩,
    e_BadLengths := excF_of (c.fact 50 rfl) (He.glo_ok KX G (c.fact 25 rfl)),
    e_BadSigns := excF_of (c.fact 51 rfl) (He.glo_ok KX G (c.fact 23 rfl)),
    e_BadText := excF_of (c.fact 52 rfl) (He.glo_ok KX G (c.fact 26 rfl)),
    e_BadWindow := excF_of (c.fact 53 rfl) (He.glo_ok KX G (c.fact 24 rfl)),
    eqc := eqB2_ok (Bool.and_eq_true_iff.mp hx0).2,
    et := ⟨List.forall_mem_cons.mpr ⟨He.glo_ok KX G (c.fact 22 rfl), List.forall_mem_cons.mpr ⟨He.glo_ok KX G (c.fact 23 rfl), List.forall_mem_cons.mpr ⟨He.glo_ok KX G (c.fact 24 rfl), List.forall_mem_cons.mpr ⟨He.glo_ok KX G (c.fact 25 rfl), List.forall_mem_cons.mpr ⟨He.glo_ok KX G (c.fact 26 rfl), List.forall_mem_cons.mpr ⟨He.glo_ok KX G (c.fact 27 rfl), List.forall_mem_nil _⟩⟩⟩⟩⟩⟩, E.m, E.i, E.k, by decide⟩,
    g_BEGIN := He.glo_ok KX G (c.fact 54 rfl),
    g_Rule := He.glo_ok KX G (c.fact 28 rfl),
    kRR := E.kRR,
    kTR := E.kTR,
    ki_bool := E.ki _ (by decide),
    ki_int := E.ki _ (by decide),
    ki_tuple := E.ki _ (by decide),
    na_high := He.noat_ok (c.fact 55 rfl),
    na_low := He.noat_ok (c.fact 56 rfl),
    na_many := He.noat_ok (c.fact 57 rfl),
    na_rows := He.noat_ok (c.fact 58 rfl),
    na_wide := He.noat_ok (c.fact 59 rfl),
    r_BEGIN := E.rp _ (List.mem_singleton.mpr rfl),
    ri := E.ri (He.cls_ok (c.fact 46 rfl)),
    x_BadWords := xB_ok (hxx ("BadWords", ["index"]) (by decide)) (He.glo_ok KX G (c.fact 27 rfl)) }
theorem sc_draws : FnScope ["_law_script"] ["_law_script"] (defScope (top 28)) := ⟨rfl, rfl, rfl, by decide +kernel, rfl, by decide +kernel, by decide +kernel⟩
theorem ok_draws {P : Program} {w : World} {K : PySem.W.Frag} {mg : Str → Option Value} {base : Heap} {f : Addr} {fd : FuncData} (hl : mg "list" = none) (F : FunD K "_law_draws" "_law_draws" (defArgs (top 28)) (defBody (top 28)) (defScope (top 28)) [] [] f fd) : FnOk P w K mg base (L2.CX P w) 1 f fd ["_law_script"] (spDraws K) := by
  refine F.ok sc_draws (fun vs H Q E h => ?_) (fun cdv A outer s H vs Q E hr h => ⟨_, pss_one (ps_ret (pe_lst (pa_cons (pe_callTy call_list_of rfl hl (by decide +kernel) (pa_cons (pe_var (i := 0) rfl (Or.inl rfl)) pa_nil) (by decide) (by decide)) (pa_cons pe_int (pa_cons pe_int (pa_cons pe_int pa_nil)))))), ?_⟩)
  · obtain ⟨a, ns, rfl, _⟩ := h
    rfl
  · obtain ⟨a, ns, rfl, hS, hl, q⟩ := h
    refine ⟨.ref a, rfl, a, _, rfl, .inl hS, fun L hL => ⟨by show 4 ≤ sizeLine; decide, fun r hr => q L r hL hr⟩⟩
theorem ok_law {P : Program} {w : World} {K : PySem.W.Frag} {mg : Str → Option Value} {base : Heap} {ok : List Int → Prop} {f fD : Addr} {fd fdD : FuncData} (FS : Facts K mg) (G_D___len__ : MtD P w K mg base "__len__" 1 0 F_D___len__) (G_D_copy : CpD P w K mg base 3) (G_D_places : MtD P w K mg base "places" 3 0 F_D_places) (G_D_rule : GtDk P w K mg base "rule" 1 F_D_rule) (G_D_text : GtDk P w K mg base "text" 1 F_D_text) (G_D_undo : MtD P w K mg base "undo" 1 0 F_D_undo) (G_D_waits : MtD P w K mg base "waits" 4 0 F_D_waits) (G_Desk : MkDk P w K mg base 1) (G__law_cuts : Fn P w K mg base "_law_cuts" 1 2 F__law_cuts) (G__law_made : Fn P w K mg base "_law_made" 5 1 F__law_made) (G__law_odd_text : Fn P w K mg base "_law_odd_text" 2 2 F__law_odd_text) (G__law_of_copy : FnD P w K mg base "_law_of_copy" 7 4 F__law_of_copy) (G__law_pick : Fn P w K mg base "_law_pick" 1 2 F__law_pick) (G__law_rule : Fn P w K mg base "_law_rule" 2 4 F__law_rule) (G__law_stands : FnD P w K mg base "_law_stands" 6 2 F__law_stands) (G__law_text : Fn P w K mg base "_law_text" 2 3 F__law_text) (G__law_wrong : FnD P w K mg base "_law_wrong" 6 1 F__law_wrong) (G_eq : EqFn P w K mg base 2 F_eq) (F : FunD K "law" "law" (defArgs (top 39)) (defBody (top 39)) (defScope (top 39)) [] [] f fd)
    (FD : FunD K "_law_draws" "_law_draws" (defArgs (top 28)) (defBody (top 28)) (defScope (top 28)) [] [] fD fdD) (hD : mg "_law_draws" = some (.ref fD)) (hm : ∀ ns, ok ns → ∃ e, m_law ⟨.no :: .val .row :: List.replicate 12 .no, row0 ns⟩ = .ok (.rt (.bl true)) e) : FnOk P w K mg base (L2.CX P w) 8 f fd ["_law_script"] (spLaw K ok) := by
  have GD : FnOk P w K mg base (L2.CX P w) 1 fD fdD ["_law_script"] (spDraws K) := ok_draws FS.b_list FD
  have bD : Binds K fdD ["_law_script"] [] := FD.bindsN fun _ _ _ _ _ _ us hl => match us, hl with | [_], _ => rfl
  refine F.ok sc_law (fun vs H Q E h => ?_) (fun cdv A outer s H vs Q E hr h => ⟨_, pss_cons (ps_set (i := 1) sc_law.nd rfl (by first | exact Or.inl rfl | exact Or.inr rfl) (pe_call GD (hr.mono (by decide)) rfl hD FD.kp bD .nil passL (pa_cons (pe_var (i := 0) rfl (Or.inl rfl)) pa_nil))) (w_law FS G_D___len__ G_D_copy G_D_places G_D_rule G_D_text G_D_undo G_D_waits G_Desk G__law_cuts G__law_made G__law_odd_text G__law_of_copy G__law_pick G__law_rule G__law_stands G__law_text G__law_wrong G_eq hr (takes_of rfl rfl rfl rfl)), law_read rfl hm h⟩)
  obtain ⟨a, ns, rfl, _⟩ := h
  rfl
abbrev R : PySem.W.OpenRow := PySem.W.OpenLaw.row PySem.Challenge.rw_cutsagain_k13_whole_desks
abbrev hk : PySem.W.Hook := hookP 5 fa fn gts exA
def ob (s : PySem.W.SharedT) : AlP := obsPG 5 fa fn gts exA (HandSHeadRun.getT s)
theorem ob_eq (s : PySem.W.SharedT) : ob s = hk.obs s.abs := obsPG_eq (HandSHeadRun.getT_eq s)
def loose1 : List PySem.Str := ["is_from", "is_word", "check_shape", "check_lengths", "parts_of", "are_signs", "is_text", "check_text", "step_of", "cuts_of", "_law_draws", "_law_pick", "_law_words", "_law_rule", "_law_made", "_law_cuts", "_law_text", "_law_odd_text", "_law_wrong", "_law_stands", "_law_of_copy", "CutError", "BadSigns", "BadWindow", "BadLengths", "BadText", "BadWords", "Rule", "Desk", "MOST_SIGNS"]
def loose2 : List PySem.Str := ["MOST_WINDOW", "MOST_LENGTH", "MOST_LEAST", "MOST_TEXT", "BEGIN", "__name__"]
theorem run (w : World) : HandSHeadRun.RunEq R (PySem.W.view R.prog [39]) hk ob 4000 (loose1 ++ loose2) w := by
  intro os
  kernel_rfl
theorem facts {P : Program} {w : World} {K : PySem.W.Frag} {h : Heap} {mg : Str → Option Value} {f : Addr} {ok : List Int → Prop} (KX : K.In h) (G : h.Ns mainGlobals mg) (hfa : mg ("law" : Str) = some (.ref f)) (c : He.SaysD fa fn K) (hx : exA K = true) (cg : SaysG gts K) (hm : ∀ ns, ok ns → ∃ e, m_law ⟨.no :: .val .row :: List.replicate 12 .no, row0 ns⟩ = .ok (.rt (.bl true)) e) :
    ∃ fd : FuncData, (∀ (s : Shared) (v : Value), BindsTo s fd ⟨[v], []⟩ [("_law_script", v)]) ∧ ∀ base : Heap, K.In base → base.Ns mainGlobals mg → FnOk P w K mg base (L2.CX P w) 8 f fd ["_law_script"] (spLaw K ok) := by
  have FS := facts_of KX G c hx
  obtain ⟨fd_D___len__, FD_D___len__⟩ := c.def_ 24 (d := d_D___len__) rfl
  have G_D___len__ := fun (base : Heap) => f_D___len__ (P := P) (w := w) (base := base) FS  FD_D___len__ (He.meth_ok (c.fact 61 rfl)) (FD_D___len__.bindsN fun _ _ _ _ _ _ us hl => match us, hl with | [_], _ => rfl)
  obtain ⟨fd_Desk, FD_Desk⟩ := c.def_ 25 (d := d_Desk) rfl
  have G_Desk := fun (base : Heap) => f_Desk (P := P) (w := w) (base := base) FS  FD_Desk (He.glo_ok KX G (c.fact 29 rfl)) (FD_Desk.bindsN fun _ _ _ _ _ _ us hl => match us, hl with | [_, _], _ => rfl) (He.mkr_ok (c.fact 62 rfl))
  obtain ⟨fd_D_copy, FD_D_copy⟩ := c.def_ 26 (d := d_D_copy) rfl
  have G_D_copy := fun (base : Heap) => f_D_copy (P := P) (w := w) (base := base) FS (G_Desk base) FD_D_copy (He.meth_ok (c.fact 63 rfl)) (FD_D_copy.bindsN fun _ _ _ _ _ _ us hl => match us, hl with | [_], _ => rfl)
  obtain ⟨fd_step_of, FD_step_of⟩ := c.def_ 8 (d := d_step_of) rfl
  have G_step_of := fun (base : Heap) => f_step_of (P := P) (w := w) (base := base) FS  FD_step_of (He.glo_ok KX G (c.fact 8 rfl)) (FD_step_of.bindsN fun _ _ _ _ _ _ us hl => match us, hl with | [_, _, _], _ => rfl)
  obtain ⟨fd_cuts_of, FD_cuts_of⟩ := c.def_ 9 (d := d_cuts_of) rfl
  have G_cuts_of := fun (base : Heap) => f_cuts_of (P := P) (w := w) (base := base) FS (G_step_of base) FD_cuts_of (He.glo_ok KX G (c.fact 9 rfl)) (FD_cuts_of.bindsN fun _ _ _ _ _ _ us hl => match us, hl with | [_, _], _ => rfl)
  obtain ⟨fd_D_places, FD_D_places⟩ := c.def_ 27 (d := d_D_places) rfl
  have G_D_places := fun (base : Heap) => f_D_places (P := P) (w := w) (base := base) FS (G_cuts_of base) FD_D_places (He.meth_ok (c.fact 64 rfl)) (FD_D_places.bindsN fun _ _ _ _ _ _ us hl => match us, hl with | [_], _ => rfl)
  obtain ⟨PO_D_rule, fd_D_rule, FD_D_rule⟩ := cg.get 0 (d := g_D_rule) rfl
  have G_D_rule := fun (base : Heap) => f_D_rule (P := P) (w := w) (base := base) FS  FD_D_rule PO_D_rule (FD_D_rule.bindsN fun _ _ _ _ _ _ us hl => match us, hl with | [_], _ => rfl)
  obtain ⟨PO_D_text, fd_D_text, FD_D_text⟩ := cg.get 1 (d := g_D_text) rfl
  have G_D_text := fun (base : Heap) => f_D_text (P := P) (w := w) (base := base) FS  FD_D_text PO_D_text (FD_D_text.bindsN fun _ _ _ _ _ _ us hl => match us, hl with | [_], _ => rfl)
  obtain ⟨fd_D_undo, FD_D_undo⟩ := c.def_ 28 (d := d_D_undo) rfl
  have G_D_undo := fun (base : Heap) => f_D_undo (P := P) (w := w) (base := base) FS  FD_D_undo (He.meth_ok (c.fact 65 rfl)) (FD_D_undo.bindsN fun _ _ _ _ _ _ us hl => match us, hl with | [_], _ => rfl)
  obtain ⟨fd_D_waits, FD_D_waits⟩ := c.def_ 29 (d := d_D_waits) rfl
  have G_D_waits := fun (base : Heap) => f_D_waits (P := P) (w := w) (base := base) FS (G_D_places base) FD_D_waits (He.meth_ok (c.fact 66 rfl)) (FD_D_waits.bindsN fun _ _ _ _ _ _ us hl => match us, hl with | [_], _ => rfl)
  obtain ⟨fd__law_cuts, FD__law_cuts⟩ := c.def_ 15 (d := d__law_cuts) rfl
  have G__law_cuts := fun (base : Heap) => f__law_cuts (P := P) (w := w) (base := base) FS  FD__law_cuts (He.glo_ok KX G (c.fact 15 rfl)) (FD__law_cuts.bindsN fun _ _ _ _ _ _ us hl => match us, hl with | [_, _], _ => rfl)
  obtain ⟨fd_BadWords, FD_BadWords⟩ := c.def_ 31 (d := d_BadWords) rfl
  have G_BadWords := fun (base : Heap) => xinit1 (P := P) (w := w) (base := base) (qual := "BadWords.__init__") FS.x_BadWords FD_BadWords (⟨rfl, rfl, rfl, by decide +kernel, rfl, by decide +kernel, by decide +kernel⟩ : FnScope ["self", "index"] ["self", "index"] (defScope (inClass (top 6) 0))) (FD_BadWords.bindsN fun _ _ _ _ _ _ us hl => match us, hl with | [_, _], _ => rfl) (by decide) (by decide) (by decide) (by decide) (fun _ _ _ _ _ _ => Or.inl rfl) (fun _ _ _ _ _ _ => Or.inl rfl) (fun _ _ _ _ _ _ => rfl)
  obtain ⟨fd_is_from, FD_is_from⟩ := c.def_ 0 (d := d_is_from) rfl
  have G_is_from := fun (base : Heap) => f_is_from (P := P) (w := w) (base := base) FS  FD_is_from (He.glo_ok KX G (c.fact 0 rfl)) (FD_is_from.bindsN fun _ _ _ _ _ _ us hl => match us, hl with | [_, _, _], _ => rfl)
  obtain ⟨fd_check_lengths, FD_check_lengths⟩ := c.def_ 3 (d := d_check_lengths) rfl
  have G_check_lengths := fun (base : Heap) => f_check_lengths (P := P) (w := w) (base := base) FS (G_is_from base) FD_check_lengths (He.glo_ok KX G (c.fact 3 rfl)) (FD_check_lengths.bindsN fun _ _ _ _ _ _ us hl => match us, hl with | [_, _], _ => rfl)
  obtain ⟨fd_check_shape, FD_check_shape⟩ := c.def_ 2 (d := d_check_shape) rfl
  have G_check_shape := fun (base : Heap) => f_check_shape (P := P) (w := w) (base := base) FS (G_is_from base) FD_check_shape (He.glo_ok KX G (c.fact 2 rfl)) (FD_check_shape.bindsN fun _ _ _ _ _ _ us hl => match us, hl with | [_, _], _ => rfl)
  obtain ⟨fd_is_word, FD_is_word⟩ := c.def_ 1 (d := d_is_word) rfl
  have G_is_word := fun (base : Heap) => f_is_word (P := P) (w := w) (base := base) FS (G_is_from base) FD_is_word (He.glo_ok KX G (c.fact 1 rfl)) (FD_is_word.bindsN fun _ _ _ _ _ _ us hl => match us, hl with | [_, _, _], _ => rfl)
  obtain ⟨fd_Rule, FD_Rule⟩ := c.def_ 22 (d := d_Rule) rfl
  have G_Rule := fun (base : Heap) => f_Rule (P := P) (w := w) (base := base) FS (G_BadWords base) (G_check_lengths base) (G_check_shape base) (G_is_word base) FD_Rule (He.glo_ok KX G (c.fact 28 rfl)) (FD_Rule.bindsN fun _ _ _ _ _ _ us hl => match us, hl with | [_, _, _, _, _, _], _ => rfl) (He.mkr_ok (c.fact 60 rfl))
  obtain ⟨fd__law_made, FD__law_made⟩ := c.def_ 14 (d := d__law_made) rfl
  have G__law_made := fun (base : Heap) => f__law_made (P := P) (w := w) (base := base) FS (G_Rule base) FD__law_made (He.glo_ok KX G (c.fact 14 rfl)) (FD__law_made.bindsN fun _ _ _ _ _ _ us hl => match us, hl with | [_], _ => rfl)
  obtain ⟨fd__law_pick, FD__law_pick⟩ := c.def_ 11 (d := d__law_pick) rfl
  have G__law_pick := fun (base : Heap) => f__law_pick (P := P) (w := w) (base := base) FS  FD__law_pick (He.glo_ok KX G (c.fact 11 rfl)) (FD__law_pick.bindsN fun _ _ _ _ _ _ us hl => match us, hl with | [_, _], _ => rfl)
  obtain ⟨fd__law_odd_text, FD__law_odd_text⟩ := c.def_ 17 (d := d__law_odd_text) rfl
  have G__law_odd_text := fun (base : Heap) => f__law_odd_text (P := P) (w := w) (base := base) FS (G__law_pick base) FD__law_odd_text (He.glo_ok KX G (c.fact 17 rfl)) (FD__law_odd_text.bindsN fun _ _ _ _ _ _ us hl => match us, hl with | [_, _], _ => rfl)
  obtain ⟨fd_parts_of, FD_parts_of⟩ := c.def_ 4 (d := d_parts_of) rfl
  have G_parts_of := fun (base : Heap) => f_parts_of (P := P) (w := w) (base := base) FS  FD_parts_of (He.glo_ok KX G (c.fact 4 rfl)) (FD_parts_of.bindsN fun _ _ _ _ _ _ us hl => match us, hl with | [_], _ => rfl)
  obtain ⟨fd_eq, FD_eq⟩ := c.def_ 23 (d := d_eq) rfl
  have G_eq := fun (base : Heap) => f_eq (P := P) (w := w) (base := base) FS (G_parts_of base) FD_eq (FD_eq.bindsN fun _ _ _ _ _ _ us hl => match us, hl with | [_, _], _ => rfl)
  obtain ⟨fd__law_stands, FD__law_stands⟩ := c.def_ 19 (d := d__law_stands) rfl
  have G__law_stands := fun (base : Heap) => f__law_stands (P := P) (w := w) (base := base) FS (G_D___len__ base) (G_D_places base) (G_D_rule base) (G_D_text base) (G_D_waits base) (G__law_cuts base) (G__law_made base) (G_eq base) FD__law_stands (He.glo_ok KX G (c.fact 19 rfl)) (FD__law_stands.bindsN fun _ _ _ _ _ _ us hl => match us, hl with | [_, _, _], _ => rfl)
  obtain ⟨fd_are_signs, FD_are_signs⟩ := c.def_ 5 (d := d_are_signs) rfl
  have G_are_signs := fun (base : Heap) => f_are_signs (P := P) (w := w) (base := base) FS (G_is_from base) FD_are_signs (He.glo_ok KX G (c.fact 5 rfl)) (FD_are_signs.bindsN fun _ _ _ _ _ _ us hl => match us, hl with | [_, _], _ => rfl)
  obtain ⟨fd_is_text, FD_is_text⟩ := c.def_ 6 (d := d_is_text) rfl
  have G_is_text := fun (base : Heap) => f_is_text (P := P) (w := w) (base := base) FS (G_are_signs base) FD_is_text (He.glo_ok KX G (c.fact 6 rfl)) (FD_is_text.bindsN fun _ _ _ _ _ _ us hl => match us, hl with | [_, _], _ => rfl)
  obtain ⟨fd_check_text, FD_check_text⟩ := c.def_ 7 (d := d_check_text) rfl
  have G_check_text := fun (base : Heap) => f_check_text (P := P) (w := w) (base := base) FS (G_is_text base) FD_check_text (He.glo_ok KX G (c.fact 7 rfl)) (FD_check_text.bindsN fun _ _ _ _ _ _ us hl => match us, hl with | [_, _], _ => rfl)
  obtain ⟨fd_D_tell, FD_D_tell⟩ := c.def_ 30 (d := d_D_tell) rfl
  have G_D_tell := fun (base : Heap) => f_D_tell (P := P) (w := w) (base := base) FS (G_D_places base) (G_check_text base) FD_D_tell (He.meth_ok (c.fact 67 rfl)) (FD_D_tell.bindsN fun _ _ _ _ _ _ us hl => match us, hl with | [_, _], _ => rfl)
  obtain ⟨fd__law_wrong, FD__law_wrong⟩ := c.def_ 18 (d := d__law_wrong) rfl
  have G__law_wrong := fun (base : Heap) => f__law_wrong (P := P) (w := w) (base := base) FS (G_D_tell base) FD__law_wrong (He.glo_ok KX G (c.fact 18 rfl)) (FD__law_wrong.bindsN fun _ _ _ _ _ _ us hl => match us, hl with | [_, _], _ => rfl)
  obtain ⟨fd__law_of_copy, FD__law_of_copy⟩ := c.def_ 20 (d := d__law_of_copy) rfl
  have G__law_of_copy := fun (base : Heap) => f__law_of_copy (P := P) (w := w) (base := base) FS (G_D_copy base) (G_D_undo base) (G__law_stands base) (G__law_wrong base) FD__law_of_copy (He.glo_ok KX G (c.fact 20 rfl)) (FD__law_of_copy.bindsN fun _ _ _ _ _ _ us hl => match us, hl with | [_, _, _, _, _], _ => rfl)
  obtain ⟨fd__law_words, FD__law_words⟩ := c.def_ 12 (d := d__law_words) rfl
  have G__law_words := fun (base : Heap) => f__law_words (P := P) (w := w) (base := base) FS  FD__law_words (He.glo_ok KX G (c.fact 12 rfl)) (FD__law_words.bindsN fun _ _ _ _ _ _ us hl => match us, hl with | [_, _], _ => rfl)
  obtain ⟨fd__law_rule, FD__law_rule⟩ := c.def_ 13 (d := d__law_rule) rfl
  have G__law_rule := fun (base : Heap) => f__law_rule (P := P) (w := w) (base := base) FS (G__law_pick base) (G__law_words base) FD__law_rule (He.glo_ok KX G (c.fact 13 rfl)) (FD__law_rule.bindsN fun _ _ _ _ _ _ us hl => match us, hl with | [_, _, _, _], _ => rfl)
  obtain ⟨fd__law_text, FD__law_text⟩ := c.def_ 16 (d := d__law_text) rfl
  have G__law_text := fun (base : Heap) => f__law_text (P := P) (w := w) (base := base) FS (G__law_pick base) FD__law_text (He.glo_ok KX G (c.fact 16 rfl)) (FD__law_text.bindsN fun _ _ _ _ _ _ us hl => match us, hl with | [_, _, _], _ => rfl)
  obtain ⟨fdD, FD⟩ := c.def_ 10 (d := d__law_draws) rfl
  obtain ⟨fd, F⟩ := c.def_ 21 (d := d_law) rfl
  have e := hfa.symm.trans (He.glo_ok KX G (c.fact 21 (f := .glo "law") rfl))
  cases e
  have b := FunD.bindsA (ps := ["_law_script"]) F fun _ _ _ _ _ _ us hl => match us, hl with | [_], _ => rfl
  exact ⟨fd, fun s v => b s [v] rfl, fun base _ _ => ok_law FS (G_D___len__ base) (G_D_copy base) (G_D_places base) (G_D_rule base) (G_D_text base) (G_D_undo base) (G_D_waits base) (G_Desk base) (G__law_cuts base) (G__law_made base) (G__law_odd_text base) (G__law_of_copy base) (G__law_pick base) (G__law_rule base) (G__law_stands base) (G__law_text base) (G__law_wrong base) (G_eq base) F FD (He.glo_ok KX G (c.fact 10 rfl)) hm⟩
theorem holds (hm : ∀ ns : List Int, ns.length ≤ 63 → ∃ e, m_law ⟨.no :: .val .row :: List.replicate 12 .no, row0 ns⟩ = .ok (.rt (.bl true)) e) : PySem.Challenge.rw_cutsagain_k13_whole_desks.Holds := by
  w_on; o_law
  refine HandSHeadRun.head_any (r := PySem.W.OpenLaw.row PySem.Challenge.rw_cutsagain_k13_whole_desks) (q := PySem.W.view (PySem.W.OpenLaw.row PySem.Challenge.rw_cutsagain_k13_whole_desks).prog [39]) (H := hk) (ob := ob) (M := 4000) (loose := loose1 ++ loose2) (d := HandSHeadRun.topDef (PySem.W.OpenLaw.row PySem.Challenge.rw_cutsagain_k13_whole_desks).prog 39) (kwd := []) ob_eq
    (by kernel_rfl) (fun s => by kernel_rfl) run (by kernel_rfl) (by kernel_rfl) (by kernel_rfl) (by rfl) (by first | assumption | decide +kernel) (by decide +kernel) ⟨rfl, rfl, rfl, rfl, rfl, by decide +kernel⟩ ?hw ?hc
  case hw => w_witness2
  case hc =>
    refine L2.walk_ofE (l := PySem.Challenge.rw_cutsagain_k13_whole_desks) (n := 63) (k := 8) (x := "_law_script") (CX := CXA (PySem.Challenge.rw_cutsagain_k13_whole_desks).prog) rfl (by decide) (by kernel_rfl) ⟨rfl, by decide, by decide⟩ ?F CXA.no
    case F =>
      intro w mg fa h Y G hmg0
      obtain ⟨K, KX, c, hx, cg⟩ := Y
      have hmg : mg ("law" : PySem.Str) = some (.ref fa) := by
        have e : (HandSHeadRun.topDef (PySem.W.OpenLaw.row PySem.Challenge.rw_cutsagain_k13_whole_desks).prog 39).name = ("law" : PySem.Str) := by kernel_rfl
        rw [← e]
        exact hmg0
      obtain ⟨fd, hb, hF⟩ := facts (P := (PySem.Challenge.rw_cutsagain_k13_whole_desks).prog) (w := w) KX G hmg c hx cg hm
      exact ⟨K, fd, spLaw K (fun ns => ns.length ≤ 63), KX, hb, fun H a ns hl _ hS => ⟨a, ns, rfl, hS, by omega, hl, fun _ => rfl⟩, fun base hb1 hb2 => FnOk.any (hF base hb1 hb2)⟩
end Cut


set_option Elab.async false
set_option linter.all false
set_option maxRecDepth 100000
set_option maxHeartbeats 1000000
/-! Plain, part 1: operators on data that are told. -/
namespace Cut
open PySem Mi
open L2 (atI ixN atI_nat)
@[simp] theorem set_ok {i : Nat} {s : Slot} {sl : List Slot} {row : RowS} (h : i < sl.length) : setR i s sl row = .ok () ⟨sl.set i s, row⟩ := if_pos h
@[simp] theorem sml_ok {α : Type} {l : List α} (h : l.length ≤ 1000000) (e : Mi.Env) : small l e = .ok () e := if_pos h
/-! numbers -/
@[simp] theorem add_ii (i j : Int) : addF (.int i) (.int j) = some (.int (i + j)) := rfl
@[simp] theorem sub_ii (i j : Int) : subF (.int i) (.int j) = some (.int (i - j)) := rfl
@[simp] theorem augadd_ii (i j : Int) : intF (fun _ _ => true) (fun x1 x2 => x1 + x2) (.int i) (.int j) = some (.int (i + j)) := rfl
@[simp] theorem augsub_ii (i j : Int) : intF (fun _ _ => true) (fun x1 x2 => x1 - x2) (.int i) (.int j) = some (.int (i - j)) := rfl
@[simp] theorem ge_ii (i j : Int) : geF (.int i) (.int j) = some (.bl (decide (j ≤ i))) := rfl
@[simp] theorem le_ii (i j : Int) : ordF .le (.int i) (.int j) = some (.bl (decide (i ≤ j))) := rfl
@[simp] theorem lt_ii (i j : Int) : ordF .lt (.int i) (.int j) = some (.bl (decide (i < j))) := rfl
@[simp] theorem gt_ii (i j : Int) : ordF .gt (.int i) (.int j) = some (.bl (decide (j < i))) := rfl
@[simp] theorem eq_ii (i j : Int) : eqF (.int i) (.int j) = some (.bl (decide (i = j))) := by
  show some (D.bl (i == j)) = _
  rfl
@[simp] theorem ne_ii (i j : Int) : neF (.int i) (.int j) = some (.bl (!decide (i = j))) := by
  show some (D.bl (!(i == j))) = _
  rfl
@[simp] theorem eq_in (i : Int) : eqF (.int i) .non = some (.bl false) := rfl
@[simp] theorem isN_int (i : Int) : isNF (.int i) = some (.bl false) := rfl
@[simp] theorem isN_non : isNF .non = some (.bl true) := rfl
@[simp] theorem isN_tup (l : List D) : isNF (.tup l) = some (.bl false) := rfl
@[simp] theorem notN_int (i : Int) : notNF (.int i) = some (.bl true) := rfl
@[simp] theorem notN_non : notNF .non = some (.bl false) := rfl
@[simp] theorem notN_tup (l : List D) : notNF (.tup l) = some (.bl true) := rfl
@[simp] theorem toInt_i (i : Int) : toIntF (.int i) = some (.int i) := rfl
@[simp] theorem toInt_b (b : Bool) : toIntF (.bl b) = some (.int (if b then 1 else 0)) := rfl
@[simp] theorem len_t (l : List D) : lenF (.tup l) = some (.int l.length) := rfl
@[simp] theorem len_l (l : List D) : lenF (.lst l) = some (.int l.length) := rfl
@[simp] theorem items_t (l : List D) : D.items (.tup l) = some l := rfl
@[simp] theorem items_l (l : List D) : D.items (.lst l) = some l := rfl
@[simp] theorem itemsD_t (l : List D) : itemsD (.tup l) = some l := rfl
@[simp] theorem itemsD_l (l : List D) : itemsD (.lst l) = some l := rfl
@[simp] theorem enum1_t (l : List D) : enum1D [.tup l] = some (enumL l) := rfl
@[simp] theorem enum1_l (l : List D) : enum1D [.lst l] = some (enumL l) := rfl
@[simp] theorem zipD_ll (l m : List D) : zipD [.lst l, .lst m] = some (zipL l m) := rfl
@[simp] theorem tuple_l (l : List D) : tupleF (.lst l) = some (.tup l) := rfl
@[simp] theorem tuple_t (l : List D) : tupleF (.tup l) = some (.tup l) := rfl
@[simp] theorem listO_l (l : List D) : listO (.lst l) = some (.lst l) := rfl
@[simp] theorem listO_t (l : List D) : listO (.tup l) = some (.lst l) := rfl
@[simp] theorem fld0 (a : D) (l : List D) : fldF 0 (.obj (a :: l)) = some a := rfl
@[simp] theorem fld1 (a b : D) (l : List D) : fldF 1 (.obj (a :: b :: l)) = some b := rfl
@[simp] theorem fld2 (a b c : D) (l : List D) : fldF 2 (.obj (a :: b :: c :: l)) = some c := rfl
@[simp] theorem fld3 (a b c d : D) (l : List D) : fldF 3 (.obj (a :: b :: c :: d :: l)) = some d := rfl
@[simp] theorem fld4 (a b c d e : D) (l : List D) : fldF 4 (.obj (a :: b :: c :: d :: e :: l)) = some e := rfl
@[simp] theorem min2_ii (i j : Int) : min2F [.int i, .int j] = some (.int (min i j)) := rfl
@[simp] theorem max2_ii (i j : Int) : max2F [.int i, .int j] = some (.int (max i j)) := rfl
@[simp] theorem all_map (l : List Bool) : allF (.lst (l.map D.bl)) = some (.bl (l.all id)) := by simp [allF, blsOf_map]
@[simp] theorem all_comp {α : Type} (g : α → Bool) (l : List α) : allF (.lst (l.map (D.bl ∘ g))) = some (.bl (l.all g)) := by
  rw [← List.map_map, all_map, List.all_map]
  rfl
@[simp] theorem any_map (l : List Bool) : anyF (.lst (l.map D.bl)) = some (.bl (l.any id)) := by simp [anyF, blsOf_map]
@[simp] theorem any_comp {α : Type} (g : α → Bool) (l : List α) : anyF (.lst (l.map (D.bl ∘ g))) = some (.bl (l.any g)) := by
  rw [← List.map_map, any_map, List.any_map]
  rfl
@[simp] theorem chD_ii (o o' : Int → Int → Bool) (i j : Int) (k : M D) (e : Mi.Env) (t : Tag k) : chD o o' (.int i) (.int j) k e t = iteR (o i j) (bindM k fun z => match z with
    | .int l => pureM (.bl (o' j l))
    | _ => errM) (pureM (.bl false)) e := by
  unfold chD iteR
  by_cases c : o i j = true
  · simp only [if_pos c]
    rfl
  · simp only [if_neg c]
    rfl
theorem range1_ok {j : Int} (h : okI j = true) : range1D [.int j] = some (rngL 0 j) := by simp [range1D, h]
theorem range2_ok {i j : Int} (h : okI i = true) (h' : okI j = true) : range2D [.int i, .int j] = some (rngL i j) := by simp [range2D, h, h']
theorem okI_small {j : Int} (h : -1000000000 ≤ j) (h' : j ≤ 1000000000) : okI j = true := by
  unfold okI
  simp only [decide_eq_true_eq]
  omega
@[simp] theorem okI_nat {n : Nat} (h : n ≤ 1000000000) : okI (n : Int) = true := okI_small (by omega) (by omega)
/-! subscripts -/
@[simp] theorem ix_t (l : List D) (i : Int) : ixF (.tup l) (.int i) = atI l i := rfl
@[simp] theorem ix_l (l : List D) (i : Int) : ixF (.lst l) (.int i) = atI l i := rfl
@[simp] theorem at0 {α : Type} (a : α) (l : List α) : atI (a :: l) 0 = some a := by simp [atI, ixN]
theorem at_nat {α : Type} {l : List α} {n : Nat} {a : α} (h : l[n]? = some a) : atI l (n : Int) = some a := atI_nat h
@[simp] theorem at1 {α : Type} (a b : α) (l : List α) : atI (a :: b :: l) 1 = some b := at_nat (n := 1) rfl
@[simp] theorem at2 {α : Type} (a b c : α) (l : List α) : atI (a :: b :: c :: l) 2 = some c := at_nat (n := 2) rfl
@[simp] theorem at3 {α : Type} (a b c d : α) (l : List α) : atI (a :: b :: c :: d :: l) 3 = some d := at_nat (n := 3) rfl
@[simp] theorem at4 {α : Type} (a b c d e : α) (l : List α) : atI (a :: b :: c :: d :: e :: l) 4 = some e := at_nat (n := 4) rfl
/-! tuples of numbers -/
def iD (l : List Int) : D := .tup (l.map D.int)
def wD (l : List (List Int)) : List D := l.map iD
@[simp] theorem items_iD (l : List Int) : D.items (iD l) = some (l.map D.int) := rfl
@[simp] theorem itemsD_iD (l : List Int) : itemsD (iD l) = some (l.map D.int) := rfl
@[simp] theorem len_iD (l : List Int) : lenF (iD l) = some (.int l.length) := by simp [iD]
@[simp] theorem isi_iD (l : List Int) : isiF "tuple" (iD l) = some (.bl true) := by rfl
@[simp] theorem ix_iD (l : List Int) (i : Int) : ixF (iD l) (.int i) = atI (l.map D.int) i := rfl
@[simp] theorem tup_snoc (l : List Int) (s : Int) : D.tup (l.map D.int ++ [D.int s]) = iD (l ++ [s]) := by simp [iD]
@[simp] theorem enum_iD (l : List Int) : enum1D [iD l] = some (enumL (l.map D.int)) := rfl
theorem eqvs_ints : ∀ a b : List Int, D.eqvs (a.map D.int) (b.map D.int) = decide (a = b)
  | [], [] => rfl
  | [], _ :: _ => rfl
  | _ :: _, [] => rfl
  | x :: a, y :: b => by
    simp only [List.map_cons, D.eqvs, D.eqv, eqvs_ints a b, List.cons.injEq]
    by_cases h : x = y <;> by_cases h' : a = b <;> simp [h, h']
theorem plains_ints (n : Nat) : ∀ a : List Int, D.plains n (a.map D.int) = true
  | [] => by cases n <;> rfl
  | x :: a => by
    simp only [List.map_cons, D.plains, plains_ints n a, Bool.and_true]
    cases n <;> rfl
@[simp] theorem plain_iD (n : Nat) (a : List Int) : (iD a).plain (n + 1) = true := plains_ints n a
theorem eqv_iD (a b : List Int) : (iD a).eqv (iD b) = decide (a = b) := eqvs_ints a b
theorem plains_wD (n : Nat) : ∀ a : List (List Int), D.plains (n + 1) (wD a) = true
  | [] => rfl
  | x :: a => by
    show (D.plain (n + 1) (iD x) && D.plains (n + 1) (wD a)) = true
    rw [plain_iD, plains_wD n a]
    rfl
@[simp] theorem in_w (a : List Int) (l : List (List Int)) : inF false (iD a) (.tup (wD l)) = some (.bl (decide (a ∈ l))) := by
  simp only [inF, plain_iD, plains_wD, Bool.and_self, if_true, Bool.false_eq_true, if_false]
  congr 2
  unfold wD
  rw [List.any_map]
  induction l with
  | nil => rfl
  | cons x l ih =>
    simp only [List.any_cons, Function.comp_apply, eqv_iD, List.mem_cons] at ih ⊢
    rw [ih]
    by_cases h : x = a <;> by_cases h' : a ∈ l <;> simp [h, h', eq_comm (a := a)]
@[simp] theorem eq_iD (a b : List Int) : eqF (iD a) (iD b) = some (.bl (decide (a = b))) := by
  simp [eqF, eqv_iD]
@[simp] theorem ne_iD (a b : List Int) : neF (iD a) (iD b) = some (.bl (!decide (a = b))) := by
  simp [neF, eqv_iD]
/-- a list of numbers -/
def lD (l : List Int) : D := .lst (l.map D.int)
@[simp] theorem eq_lD (a b : List Int) : eqF (lD a) (lD b) = some (.bl (decide (a = b))) := by
  simp [eqF, lD, D.plain, plains_ints, D.eqv, eqvs_ints]
@[simp] theorem ne_lD (a b : List Int) : neF (lD a) (lD b) = some (.bl (!decide (a = b))) := by
  simp [neF, lD, D.plain, plains_ints, D.eqv, eqvs_ints]
theorem eqvs_w : ∀ a b : List (List Int), D.eqvs (wD a) (wD b) = decide (a = b)
  | [], [] => rfl
  | [], _ :: _ => rfl
  | _ :: _, [] => rfl
  | x :: a, y :: b => by
    show (D.eqv (iD x) (iD y) && D.eqvs (wD a) (wD b)) = _
    rw [eqv_iD, eqvs_w a b]
    by_cases h : x = y <;> by_cases h' : a = b <;> simp [h, h']
@[simp] theorem eq_wl (a b : List (List Int)) : eqF (.lst (wD a)) (.lst (wD b)) = some (.bl (decide (a = b))) := by
  simp [eqF, D.plain, plains_wD, D.eqv, eqvs_w]
@[simp] theorem ne_wl (a b : List (List Int)) : neF (.lst (wD a)) (.lst (wD b)) = some (.bl (!decide (a = b))) := by
  simp [neF, D.plain, plains_wD, D.eqv, eqvs_w]
/-! words in their order -/
def lexLe : List Int → List Int → Bool
  | [], _ => true
  | _ :: _, [] => false
  | x :: xs, y :: ys => if x = y then lexLe xs ys else decide (x ≤ y)
theorem cmps_le : ∀ (n : Nat) (xs ys : List Int), D.cmps .le n (xs.map D.int) (ys.map D.int) (decide (xs.length ≤ ys.length)) = some (lexLe xs ys) := by
  intro n xs
  have main : ∀ (ys : List Int) (z : Bool), (z = decide (xs.length ≤ ys.length)) → D.cmps .le n (xs.map D.int) (ys.map D.int) z = some (lexLe xs ys) := by
    induction xs with
    | nil =>
      intro ys z hz
      cases ys <;> (simp [D.cmps, lexLe, hz])
    | cons x xs ih =>
      intro ys z hz
      cases ys with
      | nil => simp [D.cmps, lexLe, hz]
      | cons y ys =>
        have := ih ys z (by rw [hz]; simp)
        simp only [List.map_cons, D.cmps, this]
        have hp : ((D.int x).plain 20 && (D.int y).plain 20) = true := rfl
        rw [if_pos hp]
        have he : (D.int x).eqv (D.int y) = decide (x = y) := rfl
        rw [he]
        by_cases h : x = y
        · simp [h, lexLe]
        · simp only [h, decide_false, lexLe, if_false]
          cases n <;> rfl
  exact fun ys => main ys _ rfl
@[simp] theorem le_w (a b : List Int) : ordF .le (iD a) (iD b) = some (.bl (lexLe a b)) := by
  have h1 : (iD a).plain 20 = true := plain_iD 19 a
  have h2 : (iD b).plain 20 = true := plain_iD 19 b
  unfold ordF
  rw [h1, h2]
  simp only [Bool.and_self, if_true]
  have : D.cmp .le 10 (iD a) (iD b) = some (lexLe a b) := by
    have := cmps_le 9 a b
    unfold iD D.cmp
    simpa [Ord3.len] using this
  rw [this]
  rfl
/-! slices -/
theorem cutD_map (l : List Int) (lo hi : Option Int) : ∃ m, cutD (l.map D.int) lo hi = m.map D.int ∧ m = (l.drop (HT.sIx l.length 0 lo)).take (HT.sIx l.length l.length hi - HT.sIx l.length 0 lo) := by
  refine ⟨_, ?_, rfl⟩
  unfold cutD
  simp [List.map_take, List.map_drop]
/-- x[lo:hi] of a tuple of numbers -/
def cutI (l : List Int) (lo hi : Option Int) : List Int := (l.drop (HT.sIx l.length 0 lo)).take (HT.sIx l.length l.length hi - HT.sIx l.length 0 lo)
@[simp] theorem cut_iD (l : List Int) (lo hi : Option Int) : cutF (iD l) lo hi = some (iD (cutI l lo hi)) := by
  obtain ⟨m, h1, rfl⟩ := cutD_map l lo hi
  unfold iD cutF
  simp only
  rw [h1]
  rfl
/-! loops -/
theorem for_nx {g : D → M Unit} {b : M Fl} {d : D} {ds : List D} {e e1 e2 : Mi.Env} (hg : g d e = .ok () e1) (hb : b e1 = .ok .nx e2) : forM' g b (d :: ds) e = forM' g b ds e2 := by
  rw [forM'_cons, hg]
  simp [hb]
/-- things with their numbers, from k on -/
def enumF {α : Type} (f : α → D) (k : Nat) (l : List α) : List D := (l.zipIdx k).map fun (w, (k : Nat)) => .tup [.int k, f w]
@[simp] theorem enumF_nil {α : Type} (f : α → D) (k : Nat) : enumF f k [] = [] := rfl
@[simp] theorem enumF_cons {α : Type} (f : α → D) (k : Nat) (a : α) (l : List α) : enumF f k (a :: l) = .tup [.int k, f a] :: enumF f (k + 1) l := by
  unfold enumF
  rw [List.zipIdx_cons]
  rfl
theorem enumL_map {α : Type} (f : α → D) (l : List α) : enumL (l.map f) = enumF f 0 l := by
  unfold enumL enumF
  have : ∀ (k : Nat), ((l.map f).zipIdx k).map (fun (d, (i : Nat)) => D.tup [.int i, d]) = (l.zipIdx k).map fun (w, (k : Nat)) => D.tup [.int k, f w] := by
    induction l with
    | nil => exact fun _ => rfl
    | cons a l ih =>
      intro k
      simp only [List.map_cons, List.zipIdx_cons]
      rw [ih]
  exact this 0
end Cut


set_option Elab.async false
set_option linter.all false
set_option maxRecDepth 100000
set_option maxHeartbeats 1000000
/-! Plain, part 2: comprehensions; rules; steps. -/
namespace Cut
open PySem Mi
open L2 (atI ixN atI_nat)
/-! comprehensions -/
inductive All2 {α β : Type} (P : α → β → Prop) : List α → List β → Prop
  | nil : All2 P [] []
  | cons {a b l m} : P a b → All2 P l m → All2 P (a :: l) (b :: m)
theorem All2.length {α β : Type} {P : α → β → Prop} {l : List α} {m : List β} (h : All2 P l m) : l.length = m.length := by
  induction h with
  | nil => rfl
  | cons _ _ ih => simp [ih]
theorem wipe_one (sl : List Slot) (i : Nat) (d : Slot) : wipeS (sl.set i d) [i] = sl.set i .no := by
  unfold wipeS wipeS
  rw [List.set_set]
theorem rest_one (sl : List Slot) (i : Nat) (hi : i < sl.length) : restS (sl.set i .no) sl [i] = sl := by
  unfold restS restS
  rw [List.set_set, List.getElem?_eq_getElem hi]
  simp
/-- each thing tested, then told, the row going on -/
theorem lcGo_ex {i : Nat} {t : M Bool} {el : M D} {sl : List Slot} (I : RowS → Prop) (P : D → D → Prop) (hi : i < sl.length) : ∀ (ds acc : List D) (row : RowS), I row → (acc.length + ds.length ≤ 1000000) →
    (∀ d ∈ ds, ∀ row, I row → (∃ row', t ⟨sl.set i (.val d), row⟩ = .ok false ⟨sl.set i (.val d), row'⟩ ∧ I row') ∨ ∃ row1 row' y, t ⟨sl.set i (.val d), row⟩ = .ok true ⟨sl.set i (.val d), row1⟩ ∧ el ⟨sl.set i (.val d), row1⟩ = .ok y ⟨sl.set i (.val d), row'⟩ ∧ P d y ∧ I row') →
    ∃ ys zs row', lcGo (gN i) t el [i] ds acc ⟨sl.set i .no, row⟩ = .ok (acc ++ ys) ⟨sl.set i .no, row'⟩ ∧ List.Sublist zs ds ∧ All2 P zs ys ∧ I row'
  | [], acc, row, hI, _, _ => ⟨[], [], row, by simp, .slnil, .nil, hI⟩
  | d :: ds, acc, row, hI, hl, h => by
    have hi2 : i < (sl.set i Slot.no).length := by simpa using hi
    have ih := lcGo_ex (t := t) (el := el) I P hi ds
    rcases h d List.mem_cons_self row hI with ⟨row', ht, hI'⟩ | ⟨row1, row', y, ht, he, hp, hI'⟩
    · obtain ⟨ys, zs, row2, h1, h2, h3, h4⟩ := ih acc row' hI' (by simp at hl ⊢; omega) fun x hx => h x (List.mem_cons_of_mem _ hx)
      refine ⟨ys, zs, row2, ?_, .cons _ h2, h3, h4⟩
      rw [lcGo_cons]
      simp [hi, List.set_set, ht, wipeE, wipe_one, h1]
    · obtain ⟨ys, zs, row2, h1, h2, h3, h4⟩ := ih (acc ++ [y]) row' hI' (by simp at hl ⊢; omega) fun x hx => h x (List.mem_cons_of_mem _ hx)
      refine ⟨y :: ys, d :: zs, row2, ?_, List.Sublist.cons_cons _ h2, .cons hp h3, h4⟩
      rw [lcGo_cons]
      have hz : acc.length + 1 ≤ 1000000 := by simp at hl ⊢; omega
      simp [hi, hz, List.set_set, ht, he, wipeE, wipe_one, h1]
theorem lc_ex {i : Nat} {t : M Bool} {el : M D} {sl : List Slot} (I : RowS → Prop) (P : D → D → Prop) (hi : i < sl.length) (hno : (((sl[i]?).getD .no).isOwn) = false) (ds : List D) (row : RowS) (hI : I row) (hl : ds.length ≤ 1000000)
    (h : ∀ d ∈ ds, ∀ row, I row → (∃ row', t ⟨sl.set i (.val d), row⟩ = .ok false ⟨sl.set i (.val d), row'⟩ ∧ I row') ∨ ∃ row1 row' y, t ⟨sl.set i (.val d), row⟩ = .ok true ⟨sl.set i (.val d), row1⟩ ∧ el ⟨sl.set i (.val d), row1⟩ = .ok y ⟨sl.set i (.val d), row'⟩ ∧ P d y ∧ I row') :
    ∃ ys zs row', lcRun (gN i) t el [i] ds ⟨sl, row⟩ = .ok (.lst ys) ⟨sl, row'⟩ ∧ List.Sublist zs ds ∧ All2 P zs ys ∧ I row' := by
  obtain ⟨ys, zs, row', h1, h2, h3, h4⟩ := lcGo_ex I P hi ds [] row hI (by simpa using hl) h
  refine ⟨ys, zs, row', ?_, h2, h3, h4⟩
  unfold lcRun
  have hn : noOwn sl [i] = true := by simp [noOwn, hno]
  simp only [hn, if_true]
  have hw : wipeE ⟨sl, row⟩ [i] = ⟨sl.set i .no, row⟩ := rfl
  rw [hw, h1]
  simp [restE, rest_one sl i hi]
/-- each thing told -/
theorem lc_all {i : Nat} {el : M D} {sl : List Slot} (I : RowS → Prop) (P : D → D → Prop) (hi : i < sl.length) (hno : (((sl[i]?).getD .no).isOwn) = false) (ds : List D) (row : RowS) (hI : I row) (hl : ds.length ≤ 1000000)
    (h : ∀ d ∈ ds, ∀ row, I row → ∃ row' y, el ⟨sl.set i (.val d), row⟩ = .ok y ⟨sl.set i (.val d), row'⟩ ∧ P d y ∧ I row') :
    ∃ ys row', lcRun (gN i) (pureM true) el [i] ds ⟨sl, row⟩ = .ok (.lst ys) ⟨sl, row'⟩ ∧ All2 P ds ys ∧ I row' := by
  have hlcGo : ∀ (ds acc : List D) (row : RowS), I row → (acc.length + ds.length ≤ 1000000) → (∀ d ∈ ds, ∀ row, I row → ∃ row' y, el ⟨sl.set i (.val d), row⟩ = .ok y ⟨sl.set i (.val d), row'⟩ ∧ P d y ∧ I row') →
      ∃ ys row', lcGo (gN i) (pureM true) el [i] ds acc ⟨sl.set i .no, row⟩ = .ok (acc ++ ys) ⟨sl.set i .no, row'⟩ ∧ All2 P ds ys ∧ I row' := by
    intro ds
    induction ds with
    | nil => exact fun acc row hI _ _ => ⟨[], row, by simp, .nil, hI⟩
    | cons d ds ih =>
      intro acc row hI hl h
      have hi2 : i < (sl.set i Slot.no).length := by simpa using hi
      obtain ⟨row', y, he, hp, hI'⟩ := h d List.mem_cons_self row hI
      obtain ⟨ys, row2, h1, h3, h4⟩ := ih (acc ++ [y]) row' hI' (by simp at hl ⊢; omega) fun x hx => h x (List.mem_cons_of_mem _ hx)
      refine ⟨y :: ys, row2, ?_, .cons hp h3, h4⟩
      rw [lcGo_cons]
      have hz : acc.length + 1 ≤ 1000000 := by simp at hl ⊢; omega
      simp [hi, hz, List.set_set, he, wipeE, wipe_one, h1]
  obtain ⟨ys, row', h1, h3, h4⟩ := hlcGo ds [] row hI (by simpa using hl) h
  refine ⟨ys, row', ?_, h3, h4⟩
  unfold lcRun
  have hn : noOwn sl [i] = true := by simp [noOwn, hno]
  simp only [hn, if_true]
  have hw : wipeE ⟨sl, row⟩ [i] = ⟨sl.set i .no, row⟩ := rfl
  rw [hw, h1]
  simp [restE, rest_one sl i hi]
/-- each thing told by a function, nothing changed -/
theorem lc_map {i : Nat} {el : M D} {sl : List Slot} (f : D → D) (hi : i < sl.length) (hno : (((sl[i]?).getD .no).isOwn) = false) (ds : List D) (row : RowS) (hl : ds.length ≤ 1000000)
    (h : ∀ d ∈ ds, el ⟨sl.set i (.val d), row⟩ = .ok (f d) ⟨sl.set i (.val d), row⟩) : lcRun (gN i) (pureM true) el [i] ds ⟨sl, row⟩ = .ok (.lst (ds.map f)) ⟨sl, row⟩ := by
  have hlcGo : ∀ (ds acc : List D), (acc.length + ds.length ≤ 1000000) → (∀ d ∈ ds, el ⟨sl.set i (.val d), row⟩ = .ok (f d) ⟨sl.set i (.val d), row⟩) →
      lcGo (gN i) (pureM true) el [i] ds acc ⟨sl.set i .no, row⟩ = .ok (acc ++ ds.map f) ⟨sl.set i .no, row⟩ := by
    intro ds
    induction ds with
    | nil => exact fun acc _ _ => by simp
    | cons d ds ih =>
      intro acc hl h
      have hi2 : i < (sl.set i Slot.no).length := by simpa using hi
      have he := h d List.mem_cons_self
      have h1 := ih (acc ++ [f d]) (by simp at hl ⊢; omega) fun x hx => h x (List.mem_cons_of_mem _ hx)
      rw [lcGo_cons]
      have hz : acc.length + 1 ≤ 1000000 := by simp at hl ⊢; omega
      simp [hi, hz, List.set_set, he, wipeE, wipe_one, h1]
  unfold lcRun
  have hn : noOwn sl [i] = true := by simp [noOwn, hno]
  simp only [hn, if_true]
  have hw : wipeE ⟨sl, row⟩ [i] = ⟨sl.set i .no, row⟩ := rfl
  rw [hw, hlcGo ds [] (by simpa using hl) h]
  simp [restE, rest_one sl i hi]
/-! rules -/
structure PR where
  many : Int
  wide : Nat
  rows : List (List Int)
  low : Int
  high : Option Int
def hD : Option Int → D
  | none => .non
  | some i => .int i
def PR.ds (r : PR) : List D := [.int r.many, .int r.wide, .tup (wD r.rows), .int r.low, hD r.high]
def PR.d (r : PR) : D := .obj r.ds
def PR.t (r : PR) : D := .tup r.ds
def isFrom (d : D) (lo hi : Int) : Bool := match d with
  | .int i => decide (lo ≤ i) && decide (i ≤ hi)
  | _ => false
@[simp] theorem isFrom_i (i lo hi : Int) : isFrom (.int i) lo hi = (decide (lo ≤ i) && decide (i ≤ hi)) := rfl
theorem e_is_from (d : D) (hd : d ≠ .row) (lo hi : Int) (row : RowS) : F_is_from [d, .int lo, .int hi] row = .ret (.bl (isFrom d lo hi)) row := by
  cases d with
  | row => exact absurd rfl hd
  | int i => by_cases h : lo ≤ i <;> simp [F_is_from, fnM_app, m_is_from, h]
  | _ => simp [F_is_from, fnM_app, m_is_from, isFrom]
@[simp] theorem e_is_from_i (i lo hi : Int) (row : RowS) : F_is_from [.int i, .int lo, .int hi] row = .ret (.bl (decide (lo ≤ i) && decide (i ≤ hi))) row := e_is_from _ (by simp) _ _ _
theorem e_check_shape {many wide : Int} (h1 : 2 ≤ many) (h2 : many ≤ 3) (h3 : 1 ≤ wide) (h4 : wide ≤ 3) (row : RowS) : F_check_shape [.int many, .int wide] row = .ret .non row := by
  simp [F_check_shape, fnM_app, m_check_shape, h1, h2, h3, h4]
theorem e_check_lengths {low : Int} {high : Option Int} (h1 : 1 ≤ low) (h2 : low ≤ 6) (h3 : ∀ h, high = some h → low ≤ h ∧ h ≤ 8) (row : RowS) : F_check_lengths [.int low, hD high] row = .ret .non row := by
  cases high with
  | none => simp [F_check_lengths, fnM_app, m_check_lengths, hD, h1, h2]
  | some h =>
    obtain ⟨a, b⟩ := h3 h rfl
    simp [F_check_lengths, fnM_app, m_check_lengths, hD, h1, h2, a, b]
theorem map_bl (l : List Int) (f : D → D) (g : Int → Bool) (h : ∀ x ∈ l, f (.int x) = .bl (g x)) : (l.map D.int).map f = (l.map g).map D.bl := by
  rw [List.map_map, List.map_map]
  exact List.map_congr_left h
theorem e_is_word {signs : Int} {window : Nat} (w : List Int) (hl : w.length ≤ 1000) (row : RowS) : F_is_word [.int signs, .int window, iD w] row = .ret (.bl (decide (w.length = window) && w.all fun x => decide (0 ≤ x) && decide (x ≤ signs - 1))) row := by
  by_cases c : w.length = window
  · have key := lc_map (i := 3) (el := c_is_word_1) (sl := [.val (.int signs), .val (.int window), .val (iD w), .no]) (fun d => .bl (isFrom d 0 (signs - 1))) (by simp) rfl (w.map D.int) row (by simpa using Nat.le_trans hl (by decide)) (fun d hd => by
      obtain ⟨x, hx, rfl⟩ := List.mem_map.mp hd
      simp [c_is_word_1])
    rw [map_bl w _ (fun x => decide (0 ≤ x) && decide (x ≤ signs - 1)) (fun _ _ => rfl)] at key
    simp [F_is_word, fnM_app, m_is_word, iD, c]
    simp only [iD] at key
    simp [key]
  · have c' : ¬ ((w.length : Int) = (window : Int)) := by omega
    simp [F_is_word, fnM_app, m_is_word, iD, c, c']
/-! Rule(..) -/
def wordOk (many : Int) (wide : Nat) (w : List Int) : Prop := w.length = wide ∧ ∀ x ∈ w, 0 ≤ x ∧ x ≤ many - 1
/-- ascending, one behind another -/
def Asc : List (List Int) → Prop
  | [] => True
  | [_] => True
  | a :: b :: l => lexLe b a = false ∧ Asc (b :: l)
structure PR.Ok (r : PR) : Prop where
  m1 : 2 ≤ r.many
  m2 : r.many ≤ 3
  w1 : 1 ≤ r.wide
  w2 : r.wide ≤ 3
  ws : ∀ w ∈ r.rows, wordOk r.many r.wide w
  asc : Asc r.rows
  l1 : 1 ≤ r.low
  l2 : r.low ≤ 6
  hi : ∀ h, r.high = some h → r.low ≤ h ∧ h ≤ 8
  sz : r.rows.length ≤ 1000
theorem wordOk.all {many : Int} {wide : Nat} {w : List Int} (h : wordOk many wide w) : (decide (w.length = wide) && w.all fun x => decide (0 ≤ x) && decide (x ≤ many - 1)) = true := by
  simp only [Bool.and_eq_true, decide_eq_true_eq, List.all_eq_true]
  exact h
theorem asc_at : ∀ (p : List (List Int)) (v w : List Int) (q : List (List Int)), Asc (p ++ v :: w :: q) → lexLe w v = false
  | [], v, w, q, h => h.1
  | [x], v, w, q, h => asc_at [] v w q h.2
  | x :: y :: p, v, w, q, h => asc_at (y :: p) v w q h.2
/-- the words' loop, behind some of them -/
theorem e_rule_loop {r : PR} (ok : r.Ok) (row : RowS) : ∀ (todo done : List (List Int)), r.rows = done ++ todo → ∀ (s6 s7 : Slot), ∃ s6' s7', forM' (gTupM 2 (gsCons (gN 6) (gsCons (gN 7) (gsNil)))) b_Rule_1 (enumF iD done.length todo)
      ⟨[.pin, .val (.int r.many), .val (.int r.wide), .val (.tup (wD r.rows)), .val (.int r.low), .val (hD r.high), s6, s7], row⟩ =
      .ok .nx ⟨[.pin, .val (.int r.many), .val (.int r.wide), .val (.tup (wD r.rows)), .val (.int r.low), .val (hD r.high), s6', s7'], row⟩
  | [], done, h, s6, s7 => ⟨s6, s7, by simp⟩
  | w :: todo, done, h, s6, s7 => by
    have hw : w ∈ r.rows := by rw [h]; simp
    have ow := ok.ws w hw
    have hl : w.length ≤ 1000 := by rw [ow.1]; have := ok.w2; omega
    obtain ⟨a, b, ih⟩ := e_rule_loop ok row todo (done ++ [w]) (by simp [h]) (.val (.int done.length)) (.val (iD w))
    refine ⟨a, b, ?_⟩
    have isw := e_is_word (signs := r.many) (window := r.wide) w hl row
    rw [ow.all] at isw
    have hb : b_Rule_1 ⟨[.pin, .val (.int r.many), .val (.int r.wide), .val (.tup (wD r.rows)), .val (.int r.low), .val (hD r.high), .val (.int done.length), .val (iD w)], row⟩ = .ok .nx ⟨[.pin, .val (.int r.many), .val (.int r.wide), .val (.tup (wD r.rows)), .val (.int r.low), .val (hD r.high), .val (.int done.length), .val (iD w)], row⟩ := by
      rcases List.eq_nil_or_concat done with hd | ⟨pre, v, hd⟩
      · subst hd
        simp [b_Rule_1, isw]
      · have hd' : done = pre ++ [v] := by simpa using hd
        subst hd'
        have hix : atI (wD r.rows) (pre.length : Int) = some (iD v) := by
          refine at_nat ?_
          rw [h]
          unfold wD
          simp
        have hasc : lexLe w v = false := asc_at pre v w todo (by
          have := ok.asc
          rw [h] at this
          simpa using this)
        have hpos : (0 : Int) < (pre.length : Int) + 1 := by omega
        simp [b_Rule_1, isw, hix, hasc, hpos]
    rw [enumF_cons, for_nx (e1 := ⟨[.pin, .val (.int r.many), .val (.int r.wide), .val (.tup (wD r.rows)), .val (.int r.low), .val (hD r.high), .val (.int done.length), .val (iD w)], row⟩) (by simp) hb]
    have e1 : done.length + 1 = (done ++ [w]).length := by simp
    rw [e1]
    exact ih
theorem e_Rule {r : PR} (ok : r.Ok) (row : RowS) : F_Rule r.ds row = .ret r.d row := by
  obtain ⟨a, b, hl⟩ := e_rule_loop ok row r.rows [] rfl .no .no
  have h1 := e_check_shape ok.m1 ok.m2 (wide := (r.wide : Int)) (by have := ok.w1; omega) (by have := ok.w2; omega) row
  have h2 := e_check_lengths ok.l1 ok.l2 ok.hi row
  have he : enumL (wD r.rows) = enumF iD 0 r.rows := enumL_map iD r.rows
  simp only [List.length_nil] at hl
  unfold F_Rule initM
  have : m_Rule ⟨.pin :: r.ds.map Slot.val ++ [.no, .no], row⟩ = .ok .nx ⟨[.pin, .val (.int r.many), .val (.int r.wide), .val (.tup (wD r.rows)), .val (.int r.low), .val (hD r.high), a, b], row⟩ := by
    simp [m_Rule, PR.ds, h1, h2, he, hl]
  rw [this]
  rfl
/-! a step -/
def lastN (w : Nat) (l : List Int) : List Int := l.drop (l.length - w)
abbrev Stand : Type := List Int × Int
def stD (st : Stand) : D := .tup [iD st.1, .int st.2]
def does (r : PR) (st : Stand) (s : Int) : Bool := (decide (r.low ≤ st.2 + 1) && decide (lastN r.wide (st.1 ++ [s]) ∈ r.rows)) || decide (some (st.2 + 1) = r.high)
def stepP (r : PR) (st : Stand) (s : Int) : Stand := (lastN r.wide (st.1 ++ [s]), if does r st s = true then 0 else match r.high with
  | some _ => st.2 + 1
  | none => min (st.2 + 1) r.low)
theorem cutI_neg (l : List Int) (w : Nat) (h : 1 ≤ w) : cutI l (some (-(w : Int))) none = lastN w l := by
  unfold cutI lastN HT.sIx
  simp only
  rw [if_pos (by omega)]
  have e : ((-(w : Int)) + (l.length : Int)).toNat = l.length - w := by omega
  rw [e]
  rw [List.take_of_length_le (by simp)]
theorem hD_eq (i : Int) (h : Option Int) : eqF (.int i) (hD h) = some (.bl (decide (some i = h))) := by
  cases h with
  | none => rfl
  | some h => simp [hD]
theorem e_step_of {r : PR} (hw : 1 ≤ r.wide) (st : Stand) (hl : st.1.length ≤ 1000) (s : Int) (row : RowS) : F_step_of [r.d, stD st, .int s] row = .ret (.tup [stD (stepP r st s), .bl (does r st s)]) row := by
  obtain ⟨many, wide, rows, low, high⟩ := r
  obtain ⟨last, len⟩ := st
  simp only at hl hw
  have hsm : last.length + 1 ≤ 1000000 := by omega
  have hc2 : cutI (last ++ [s]) (some (-(wide : Int))) none = lastN wide (last ++ [s]) := cutI_neg _ _ hw
  have hin := in_w (lastN wide (last ++ [s])) rows
  unfold stepP does stD
  simp only
  generalize lastN wide (last ++ [s]) = la at *
  cases high with
  | none =>
    by_cases c1 : low ≤ len + 1 <;> by_cases c2 : la ∈ rows <;> simp [F_step_of, fnM_app, m_step_of, PR.d, PR.ds, hsm, hc2, hD, hin, c1, c2]
  | some h =>
    by_cases c3 : len + 1 = h
    · subst c3
      by_cases c1 : low ≤ len + 1 <;> by_cases c2 : la ∈ rows <;> simp [F_step_of, fnM_app, m_step_of, PR.d, PR.ds, hsm, hc2, hD, hin, c1, c2]
    · by_cases c1 : low ≤ len + 1 <;> by_cases c2 : la ∈ rows <;> simp [F_step_of, fnM_app, m_step_of, PR.d, PR.ds, hsm, hc2, hD, hin, c1, c2, c3]
end Cut


set_option Elab.async false
set_option linter.all false
set_option maxRecDepth 100000
set_option maxHeartbeats 1000000
/-! Plain, part 3: texts, cuts. -/
namespace Cut
open PySem Mi
open L2 (atI ixN atI_nat)
/-! cuts_of -/
def runP (r : PR) : Stand → Nat → List Int → List Int
  | _, _, [] => []
  | st, k, s :: t => (if does r st s = true then [((k + 1 : Nat) : Int)] else []) ++ runP r (stepP r st s) (k + 1) t
def endP (r : PR) : Stand → List Int → Stand
  | st, [] => st
  | st, s :: t => endP r (stepP r st s) t
def begin0 : Stand := ([], 0)
def cutsP (r : PR) (text : List Int) : List Int := runP r begin0 0 text
theorem lastN_le (w : Nat) (l : List Int) : (lastN w l).length ≤ w := by
  unfold lastN
  rw [List.length_drop]
  omega
theorem step_le (r : PR) (st : Stand) (s : Int) : (stepP r st s).1.length ≤ r.wide := lastN_le _ _
theorem runP_length (r : PR) : ∀ (t : List Int) (st : Stand) (k : Nat), (runP r st k t).length ≤ t.length
  | [], _, _ => Nat.le_refl _
  | s :: t, st, k => by
    have := runP_length r t (stepP r st s) (k + 1)
    unfold runP
    rw [List.length_append, List.length_cons]
    split <;> simp <;> omega
theorem e_cuts_loop {r : PR} (hw : 1 ≤ r.wide) (hw2 : r.wide ≤ 1000) (tx : D) (row : RowS) : ∀ (todo found : List Int) (st : Stand) (k : Nat) (s4 s5 s6 : Slot), st.1.length ≤ 1000 → found.length + todo.length ≤ 1000000 → ∃ s4' s5' s6',
    forM' (gTupM 2 (gsCons (gN 4) (gsCons (gN 5) (gsNil)))) b_cuts_of_1 (enumF D.int k todo) ⟨[.val r.d, .val tx, .own (.lst (found.map D.int)), .val (stD st), s4, s5, s6], row⟩ =
      .ok .nx ⟨[.val r.d, .val tx, .own (.lst ((found ++ runP r st k todo).map D.int)), .val (stD (endP r st todo)), s4', s5', s6'], row⟩
  | [], found, st, k, s4, s5, s6, _, _ => ⟨s4, s5, s6, by simp [runP, endP]⟩
  | s :: todo, found, st, k, s4, s5, s6, hst, hf => by
    have es := e_step_of hw st hst s row
    have hf' : found.length + 1 ≤ 1000000 := by simp at hf; omega
    by_cases hd : does r st s = true
    · obtain ⟨a, b, c, ih⟩ := e_cuts_loop hw hw2 tx row todo (found ++ [((k + 1 : Nat) : Int)]) (stepP r st s) (k + 1) (.val (.int k)) (.val (.int s)) (.val (.bl true)) (Nat.le_trans (step_le r st s) hw2) (by simp at hf ⊢; omega)
      refine ⟨a, b, c, ?_⟩
      rw [enumF_cons, for_nx (e1 := ⟨[.val r.d, .val tx, .own (.lst (found.map D.int)), .val (stD st), .val (.int k), .val (.int s), s6], row⟩) (e2 := ⟨[.val r.d, .val tx, .own (.lst ((found ++ [((k + 1 : Nat) : Int)]).map D.int)), .val (stD (stepP r st s)), .val (.int k), .val (.int s), .val (.bl true)], row⟩) (by simp) (by simp [b_cuts_of_1, es, hd, hf']), ih]
      simp [runP, endP, hd]
    · simp only [Bool.not_eq_true] at hd
      obtain ⟨a, b, c, ih⟩ := e_cuts_loop hw hw2 tx row todo found (stepP r st s) (k + 1) (.val (.int k)) (.val (.int s)) (.val (.bl false)) (Nat.le_trans (step_le r st s) hw2) (by simp at hf ⊢; omega)
      refine ⟨a, b, c, ?_⟩
      rw [enumF_cons, for_nx (e1 := ⟨[.val r.d, .val tx, .own (.lst (found.map D.int)), .val (stD st), .val (.int k), .val (.int s), s6], row⟩) (e2 := ⟨[.val r.d, .val tx, .own (.lst (found.map D.int)), .val (stD (stepP r st s)), .val (.int k), .val (.int s), .val (.bl false)], row⟩) (by simp) (by simp [b_cuts_of_1, es, hd]), ih]
      simp [runP, endP, hd]
theorem begin_eq : D.tup [.tup [], .int 0] = stD begin0 := rfl
theorem e_cuts_of {r : PR} (hw : 1 ≤ r.wide) (hw2 : r.wide ≤ 1000) (text : List Int) (hl : text.length ≤ 1000000) (row : RowS) : F_cuts_of [r.d, iD text] row = .ret (lD (cutsP r text)) row := by
  obtain ⟨a, b, c, h⟩ := e_cuts_loop hw hw2 (iD text) row text [] begin0 0 .no .no .no (by simp [begin0]) (by simpa using hl)
  have he : enumL (text.map D.int) = enumF D.int 0 text := enumL_map D.int text
  simp only [List.map_nil, List.nil_append] at h
  simp [F_cuts_of, fnM_app, m_cuts_of, begin_eq, he, h, lD, cutsP]
/-! is_text -/
def signsOk (r : PR) (l : List Int) : Bool := l.all fun x => decide (0 ≤ x) && decide (x ≤ r.many - 1)
theorem e_are_signs (r : PR) (l : List Int) (hl : l.length ≤ 1000000) (row : RowS) : F_are_signs [r.d, iD l] row = .ret (.bl (signsOk r l)) row := by
  have key := lc_map (i := 2) (el := c_are_signs_1) (sl := [.val r.d, .val (iD l), .no]) (fun d => .bl (isFrom d 0 (r.many - 1))) (by simp) rfl (l.map D.int) row (by simpa using hl) (fun d hd => by
    obtain ⟨x, hx, rfl⟩ := List.mem_map.mp hd
    simp [c_are_signs_1, PR.d, PR.ds])
  rw [map_bl l _ (fun x => decide (0 ≤ x) && decide (x ≤ r.many - 1)) (fun _ _ => rfl), List.map_map] at key
  simp [F_are_signs, fnM_app, m_are_signs, key, signsOk]
theorem e_check_text {r : PR} {l : List Int} (h : signsOk r l = true) (hl : l.length ≤ 400) (row : RowS) : F_check_text [r.d, iD l] row = .ret .non row := by
  have h1 := e_are_signs r l (Nat.le_trans hl (by decide)) row
  have h2 : (l.length : Int) ≤ 400 := by omega
  have h3 : F_is_text [r.d, iD l] row = .ret (.bl true) row := by simp [F_is_text, fnM_app, m_is_text, h1, h, h2]
  simp [F_check_text, fnM_app, m_check_text, h3]
/-- what is no text -/
theorem e_check_text_bad {r : PR} {d : D} {row : RowS} (h : F_is_text [r.d, d] row = .ret (.bl false) row) : F_check_text [r.d, d] row = .exc ⟨"BadText", []⟩ row := by
  simp [F_check_text, fnM_app, m_check_text, h]
end Cut


set_option Elab.async false
set_option linter.all false
set_option maxRecDepth 100000
set_option maxHeartbeats 1000000
/-! Plain, part 4: what is drawn. -/
namespace Cut
open PySem Mi
open L2 (atI ixN atI_nat)
@[simp] theorem rowM_0 (k : Nat) (sl : List Mi.Slot) (row : RowS) : rowM 0 k ⟨Mi.Slot.val D.row :: sl, row⟩ = if row.at_ < 0 then .err else .ok (row.get k) ⟨Mi.Slot.val D.row :: sl, row⟩ := rfl
@[simp] theorem get0 (r : RowS) : r.get 0 = .lst (r.xs.map D.int) := rfl
@[simp] theorem get1 (r : RowS) : r.get 1 = .int r.at_ := rfl
@[simp] theorem get2 (r : RowS) : r.get 2 = .int r.big := rfl
@[simp] theorem get3 (r : RowS) : r.get 3 = .int r.seed := rfl
def rwR (k : Nat) (d : D) (e : Mi.Env) : Res Fl := match d with
  | .int n => (match e.sl[0]? with
    | some (Mi.Slot.val D.row) => if e.row.at_ < 0 then .err else .ok .nx { e with row := e.row.put k n }
    | _ => .err)
  | _ => .err
@[simp ↓] theorem rowSet_app (k : Nat) (m : M D) (e : Mi.Env) : rowSet 0 k m e = (m e).bind (rwR k) := by
  unfold rowSet bindM Res.bind
  cases m e with
  | ok d e1 =>
    cases d with
    | int n =>
      show (match e1.sl[0]? with
        | some (Mi.Slot.val D.row) => if e1.row.at_ < 0 then .err else Res.ok Fl.nx { e1 with row := e1.row.put k n }
        | _ => .err) = rwR k (.int n) e1
      unfold rwR
      rfl
    | _ => rfl
  | exc x e1 => rfl
  | err => rfl
@[simp] theorem rwR_int (k : Nat) (n : Int) (sl : List Mi.Slot) (row : RowS) : rwR k (.int n) ⟨Mi.Slot.val D.row :: sl, row⟩ = if row.at_ < 0 then .err else .ok .nx ⟨Mi.Slot.val D.row :: sl, row.put k n⟩ := rfl
theorem mulC_right (i j : Int) (h : -(2 ^ 64) < j ∧ j < 2 ^ 64) : mulC i j = true := by
  unfold mulC
  simp only [Bool.or_eq_true, Bool.and_eq_true, decide_eq_true_eq]
  exact .inr (.inl h)
theorem mul_small (i j : Int) (h : -(2 ^ 64) < j ∧ j < 2 ^ 64) : mulF (.int i) (.int j) = some (.int (i * j)) := by
  simp only [mulF, mulC_right i j h, if_true]
@[simp] theorem mul_a (i : Int) : mulF (.int i) (.int 48271) = some (.int (i * 48271)) := mul_small _ _ (by decide)
@[simp] theorem mul_b (i : Int) : mulF (.int i) (.int 69621) = some (.int (i * 69621)) := mul_small _ _ (by decide)
@[simp] theorem mul_c (i : Int) : mulF (.int i) (.int 16807) = some (.int (i * 16807)) := mul_small _ _ (by decide)
theorem mod_ii (i j : Int) (h : j ≠ 0) : modF (.int i) (.int j) = some (.int (i.fmod j)) := by
  show (if decide (j ≠ 0) = true then some (D.int (i.fmod j)) else none) = _
  simp [h]
@[simp] theorem mod_a (i : Int) : modF (.int i) (.int 2147483647) = some (.int (i.fmod 2147483647)) := mod_ii _ _ (by decide)
@[simp] theorem mod_b (i : Int) : modF (.int i) (.int 2147483629) = some (.int (i.fmod 2147483629)) := mod_ii _ _ (by decide)
@[simp] theorem pow_a : powF (.int 10) (.int 18) = some (.int 1000000000000000000) := by decide
/-- what a draw keeps -/
def RowIn (r : RowS) : Prop := 0 ≤ r.at_
theorem fdiv_ok (i m : Int) (h : 0 < m) (h' : m ≤ 1000000) : fdivF (.int i) (.int m) = some (.int (i.fdiv m)) := by
  have hl : m.natAbs.log2 < 9000 := by
    have h1 : m.natAbs ≤ 1000000 := by omega
    have h2 : m.natAbs < 2 ^ 20 := Nat.lt_of_le_of_lt h1 (by decide)
    have h3 : m.natAbs ≠ 0 := by omega
    have := (Nat.log2_lt h3).mpr h2
    omega
  have hc : fdivC i m = true := by
    unfold fdivC
    simp only [Bool.and_eq_true, decide_eq_true_eq]
    exact ⟨by omega, hl⟩
  show (if fdivC i m = true then some (D.int (i.fdiv m)) else none) = _
  rw [if_pos hc]
theorem e_pick {row : RowS} (h : RowIn row) {m : Int} (h0 : 0 < m) (h1 : m ≤ 1000000) : ∃ x row', F__law_pick [.row, .int m] row = .ret (.int x) row' ∧ 0 ≤ x ∧ x < m ∧ RowIn row' := by
  obtain ⟨xs, at_, big, seed⟩ := row
  have h : 0 ≤ at_ := h
  have al : ¬ at_ < 0 := by omega
  have al1 : ¬ at_ + 1 < 0 := by omega
  have hm := fun i => mod_ii i m (by omega)
  have hd := fun i => fdiv_ok i m h0 h1
  have fm : ∀ i : Int, 0 ≤ i.fmod m ∧ i.fmod m < m := fun i => ⟨Int.fmod_nonneg_of_pos _ h0, Int.fmod_lt_of_pos _ h0⟩
  by_cases c1 : big = 0
  · subst c1
    by_cases c2 : at_ < (xs.length : Int)
    · obtain ⟨n, rfl⟩ : ∃ n : Nat, at_ = n := ⟨at_.toNat, by omega⟩
      have hn : n < xs.length := by omega
      have hix : atI (xs.map D.int) (n : Int) = some (.int xs[n]) := at_nat (by simp [List.getElem?_eq_getElem hn])
      by_cases c3 : 1000000000000000000 ≤ xs[n]
      · have c4 : (0 : Int) < xs[n] := by omega
        refine ⟨xs[n].fmod m, ⟨xs, n + 1, xs[n].fdiv m, seed⟩, ?_, (fm _).1, (fm _).2, by show (0 : Int) ≤ n + 1; omega⟩
        simp [F__law_pick, fnM_app, m__law_pick, RowS.put, al, al1, c2, hix, c3, c4, hm, hd]
      · refine ⟨(((seed * 48271 + xs[n] * 69621 + 11).fmod 2147483647 * 16807).fmod 2147483629).fmod m, ⟨xs, n + 1, 0, (seed * 48271 + xs[n] * 69621 + 11).fmod 2147483647⟩, ?_, (fm _).1, (fm _).2, by show (0 : Int) ≤ n + 1; omega⟩
        simp [F__law_pick, fnM_app, m__law_pick, RowS.put, al, al1, c2, hix, c3, hm, hd]
    · refine ⟨(((seed * 48271 + 7).fmod 2147483647 * 16807).fmod 2147483629).fmod m, ⟨xs, at_, 0, (seed * 48271 + 7).fmod 2147483647⟩, ?_, (fm _).1, (fm _).2, h⟩
      simp [F__law_pick, fnM_app, m__law_pick, RowS.put, al, al1, c2, hm, hd]
  · by_cases c4 : 0 < big
    · refine ⟨big.fmod m, ⟨xs, at_, big.fdiv m, seed⟩, ?_, (fm _).1, (fm _).2, h⟩
      simp [F__law_pick, fnM_app, m__law_pick, RowS.put, al, al1, c1, c4, hm, hd]
    · refine ⟨((seed * 16807).fmod 2147483629).fmod m, ⟨xs, at_, big, seed⟩, ?_, (fm _).1, (fm _).2, h⟩
      simp [F__law_pick, fnM_app, m__law_pick, RowS.put, al, al1, c1, c4, hm, hd]
end Cut


set_option Elab.async false
set_option linter.all false
set_option maxRecDepth 100000
set_option maxHeartbeats 1000000
/-! Plain, part 5: rules that are drawn. -/
namespace Cut
open PySem Mi
open L2 (atI ixN atI_nat)
def rngI (lo hi : Int) : List Int := (List.range (hi - lo).toNat).map fun (i : Nat) => lo + i
theorem rngL_eq (lo hi : Int) : rngL lo hi = (rngI lo hi).map D.int := by
  unfold rngL rngI
  rw [List.map_map]
  rfl
theorem rngI_mem {lo hi x : Int} (h : x ∈ rngI lo hi) : lo ≤ x ∧ x < hi := by
  unfold rngI at h
  simp only [List.mem_map, List.mem_range] at h
  obtain ⟨i, h1, rfl⟩ := h
  omega
theorem rngI_length (lo hi : Int) : (rngI lo hi).length = (hi - lo).toNat := by simp [rngI]
/-! all words -/
def ext1 (signs : Int) (w : List Int) : List (List Int) := (rngI 0 signs).map fun s => w ++ [s]
def wordsP (signs : Int) : Nat → List (List Int)
  | 0 => [[]]
  | k + 1 => (wordsP signs k).flatMap (ext1 signs)
theorem add_w (a : List Int) (s : Int) (h : a.length + 1 ≤ 1000000) : addF (iD a) (.tup [.int s]) = some (iD (a ++ [s])) := by
  unfold iD addF
  simp [h]
theorem add_ww (a b : List (List Int)) (h : a.length + b.length ≤ 1000000) : addF (.lst (wD a)) (.lst (wD b)) = some (.lst (wD (a ++ b))) := by
  unfold addF wD
  simp [h]
theorem words_inner {signs : Int} (h0 : 0 ≤ signs) (h1 : signs ≤ 1000) (s1 s2 s3 : Mi.Slot) (row : RowS) : ∀ (l acc : List (List Int)) (s5 : Mi.Slot), (∀ w ∈ l, w.length ≤ 1000) → acc.length + l.length * 1000 ≤ 1000000 →
    ∃ s5', forM' (gN 5) b__law_words_1 (wD l) ⟨[.val (.int signs), s1, s2, s3, .val (.lst (wD acc)), s5, .no], row⟩ = .ok .nx ⟨[.val (.int signs), s1, s2, s3, .val (.lst (wD (acc ++ l.flatMap (ext1 signs)))), s5', .no], row⟩
  | [], acc, s5, _, _ => ⟨s5, by simp [wD]⟩
  | w :: l, acc, s5, hl, hz => by
    have hlen : (ext1 signs w).length ≤ 1000 := by
      unfold ext1
      rw [List.length_map, rngI_length]
      omega
    simp only [List.length_cons] at hz
    obtain ⟨a, ih⟩ := words_inner h0 h1 s1 s2 s3 row l (acc ++ ext1 signs w) (.val (iD w)) (fun x hx => hl x (List.mem_cons_of_mem _ hx)) (by rw [List.length_append]; omega)
    refine ⟨a, ?_⟩
    have hw := hl w List.mem_cons_self
    have key := lc_map (i := 6) (el := c__law_words_1) (sl := [.val (.int signs), s1, s2, s3, .val (.lst (wD acc)), .val (iD w), .no]) (fun d => match d with
      | .int s => iD (w ++ [s])
      | d => d) (by simp) rfl ((rngI 0 signs).map D.int) row (by rw [List.length_map, rngI_length]; omega) (fun d hd => by
        obtain ⟨x, hx, rfl⟩ := List.mem_map.mp hd
        simp [c__law_words_1, add_w w x (by omega)])
    have e1 : ((rngI 0 signs).map D.int).map (fun d => match d with
      | .int s => iD (w ++ [s])
      | d => d) = wD (ext1 signs w) := by
      unfold ext1 wD
      rw [List.map_map, List.map_map]
      rfl
    rw [e1] at key
    have e2 : wD (w :: l) = iD w :: wD l := rfl
    have hr : range1D [.int signs] = some ((rngI 0 signs).map D.int) := by rw [range1_ok (okI_small (by omega) (by omega)), rngL_eq]
    rw [e2, for_nx (e1 := ⟨[.val (.int signs), s1, s2, s3, .val (.lst (wD acc)), .val (iD w), .no], row⟩) (e2 := ⟨[.val (.int signs), s1, s2, s3, .val (.lst (wD (acc ++ ext1 signs w))), .val (iD w), .no], row⟩) (by simp) (by simp [b__law_words_1, hr, key, add_ww acc (ext1 signs w) (by omega)]), ih]
    simp [List.append_assoc]
theorem words_len (signs : Int) : ∀ (k : Nat) (w : List Int), w ∈ wordsP signs k → w.length = k ∧ ∀ x ∈ w, 0 ≤ x ∧ x < signs
  | 0, w, h => by
    simp [wordsP] at h
    subst h
    exact ⟨rfl, by simp⟩
  | k + 1, w, h => by
    simp only [wordsP, List.mem_flatMap, ext1, List.mem_map] at h
    obtain ⟨u, hu, s, hs, rfl⟩ := h
    obtain ⟨h1, h2⟩ := words_len signs k u hu
    have h3 := rngI_mem hs
    refine ⟨by simp [h1], fun x hx => ?_⟩
    rcases List.mem_append.mp hx with hx | hx
    · exact h2 x hx
    · simp at hx
      subst hx
      exact h3
theorem words_count (signs : Int) : ∀ k : Nat, (wordsP signs k).length = signs.toNat ^ k
  | 0 => rfl
  | k + 1 => by
    unfold wordsP
    have hc : ∀ l : List (List Int), (l.flatMap (ext1 signs)).length = l.length * signs.toNat := by
      intro l
      induction l with
      | nil => simp
      | cons a l ih =>
        rw [List.flatMap_cons, List.length_append, ih, List.length_cons]
        unfold ext1
        rw [List.length_map, rngI_length, Int.sub_zero, Nat.succ_mul, Nat.add_comm]
    rw [hc, words_count signs k, Nat.pow_succ]
theorem words_outer {signs : Int} (h0 : 0 ≤ signs) (h1 : signs ≤ 3) (s1 : Mi.Slot) (row : RowS) : ∀ (l : List D) (k : Nat) (s3 s4 s5 : Mi.Slot), k + l.length ≤ 3 → ∃ s3' s4' s5', forM' (gN 3) b__law_words_2 l ⟨[.val (.int signs), s1, .val (.lst (wD (wordsP signs k))), s3, s4, s5, .no], row⟩ =
    .ok .nx ⟨[.val (.int signs), s1, .val (.lst (wD (wordsP signs (k + l.length)))), s3', s4', s5', .no], row⟩
  | [], k, s3, s4, s5, _ => ⟨s3, s4, s5, by simp⟩
  | d :: l, k, s3, s4, s5, hk => by
    simp only [List.length_cons] at hk
    have hn : (wordsP signs k).length ≤ 27 := by
      rw [words_count]
      have h3 : signs.toNat ≤ 3 := by omega
      have hk3 : k ≤ 3 := by omega
      exact Nat.le_trans (Nat.pow_le_pow_left h3 k) (Nat.le_trans (Nat.pow_le_pow_right (by decide) hk3) (by decide))
    obtain ⟨a, ha⟩ := words_inner h0 (Int.le_trans h1 (by decide)) s1 (.val (.lst (wD (wordsP signs k)))) (.val d) row (wordsP signs k) [] s5 (fun w hw => by
      have := (words_len signs k w hw).1
      omega) (by simp; omega)
    obtain ⟨b, c, e, ih⟩ := words_outer h0 h1 s1 row l (k + 1) (.val d) (.val (.lst (wD (wordsP signs (k + 1))))) a (by omega)
    refine ⟨b, c, e, ?_⟩
    have e0 : wD [] = ([] : List D) := rfl
    rw [e0, List.nil_append] at ha
    have ha' : forM' (gN 5) b__law_words_1 (wD (wordsP signs k)) ⟨[.val (.int signs), s1, .val (.lst (wD (wordsP signs k))), .val d, .val (.lst []), s5, .no], row⟩ = .ok .nx ⟨[.val (.int signs), s1, .val (.lst (wD (wordsP signs k))), .val d, .val (.lst (wD (wordsP signs (k + 1)))), a, .no], row⟩ := ha
    rw [for_nx (e1 := ⟨[.val (.int signs), s1, .val (.lst (wD (wordsP signs k))), .val d, s4, s5, .no], row⟩) (e2 := ⟨[.val (.int signs), s1, .val (.lst (wD (wordsP signs (k + 1)))), .val d, .val (.lst (wD (wordsP signs (k + 1)))), a, .no], row⟩) (by simp) (by simp [b__law_words_2, ha']), ih]
    have : k + 1 + l.length = k + (l.length + 1) := by omega
    rw [this, List.length_cons]
end Cut


set_option Elab.async false
set_option linter.all false
set_option maxRecDepth 100000
set_option maxHeartbeats 1000000
/-! Plain, part 6: rules that are drawn. -/
namespace Cut
open PySem Mi
open L2 (atI ixN atI_nat)
theorem e_words {signs : Int} (h0 : 0 ≤ signs) (h1 : signs ≤ 3) {window : Nat} (hw : window ≤ 3) (row : RowS) : F__law_words [.int signs, .int window] row = .ret (.lst (wD (wordsP signs window))) row := by
  have hl : (rngL 0 (window : Int)).length = window := by simp [rngL]
  obtain ⟨a, b, c, h⟩ := words_outer h0 h1 (.val (.int window)) row (rngL 0 window) 0 .no .no .no (by rw [hl]; omega)
  rw [hl, Nat.zero_add] at h
  have hr : range1D [.int (window : Int)] = some (rngL 0 window) := range1_ok (okI_small (by omega) (by omega))
  have e0 : [D.tup []] = wD (wordsP signs 0) := rfl
  have hz : (wD (wordsP signs 0)).length ≤ 1000000 := by simp [wD, wordsP]
  simp [F__law_words, fnM_app, m__law_words, hr, e0, h, hz]
/-! drawn rules -/
def Before (a b : List Int) : Prop := lexLe b a = false
instance (a b : List Int) : Decidable (Before a b) := inferInstanceAs (Decidable (_ = _))
theorem words_asc : ∀ signs ∈ [(2 : Int), 3], ∀ k ∈ [1, 2, 3], (wordsP signs k).Pairwise Before := by decide
theorem asc_of : ∀ {l : List (List Int)}, l.Pairwise Before → Asc l
  | [], _ => trivial
  | [_], _ => trivial
  | a :: b :: l, h => ⟨(List.pairwise_cons.mp h).1 b List.mem_cons_self, asc_of (List.pairwise_cons.mp h).2⟩
theorem mul_i (i j : Int) (h : -1000000 ≤ j) (h' : j ≤ 1000000) : mulF (.int i) (.int j) = some (.int (i * j)) := mul_small i j ⟨by omega, by omega⟩
theorem All2.id_eq : ∀ {l m : List D}, All2 (fun a b => b = a) l m → m = l
  | _, _, .nil => rfl
  | _, _, .cons h r => by rw [h, r.id_eq]
theorem sub_wD : ∀ {z : List D} {l : List (List Int)}, List.Sublist z (wD l) → ∃ m, z = wD m ∧ List.Sublist m l
  | z, [], h => by
    have : z = [] := by simpa [wD] using h
    exact ⟨[], by rw [this]; rfl, .slnil⟩
  | z, w :: l, h => by
    cases h with
    | cons _ h =>
      obtain ⟨m, rfl, hm⟩ := sub_wD h
      exact ⟨m, rfl, .cons _ hm⟩
    | cons_cons _ h =>
      obtain ⟨m, rfl, hm⟩ := sub_wD h
      exact ⟨w :: m, rfl, List.Sublist.cons_cons _ hm⟩
theorem e_law_rule {row : RowS} (h : RowIn row) {signs window most : Int} (s1 : 2 ≤ signs) (s2 : signs ≤ 3) (w1 : 1 ≤ window) (w2 : window ≤ 3) (m1 : 3 ≤ most) (m2 : most ≤ 8) :
    ∃ (r : PR) (row' : RowS), F__law_rule [.row, .int signs, .int window, .int most] row = .ret r.t row' ∧ RowIn row' ∧ r.Ok ∧ r.many ≤ signs ∧ (r.wide : Int) ≤ window ∧ r.low ≤ 3 ∧ (∀ x, r.high = some x → x ≤ r.low + (most - 3)) := by
  obtain ⟨p1, row1, e1, a1, b1, h1⟩ := e_pick h (m := 3) (by decide) (by decide)
  obtain ⟨p2, row2, e2, a2, b2, h2⟩ := e_pick h1 (m := window) (by omega) (by omega)
  obtain ⟨p3, row3, e3, a3, b3, h3⟩ := e_pick h2 (m := 3) (by decide) (by decide)
  obtain ⟨many, hmany, hm2, hm3, hms⟩ : ∃ many : Int, 2 + (if p1 = 0 then 1 else 0) * (signs - 2) = many ∧ 2 ≤ many ∧ many ≤ 3 ∧ many ≤ signs := by
    by_cases c : p1 = 0
    · exact ⟨signs, by simp [c]; omega, s1, s2, Int.le_refl _⟩
    · exact ⟨2, by simp [c], by decide, by decide, s1⟩
  obtain ⟨wide, hwide⟩ : ∃ n : Nat, 1 + p2 = (n : Int) := ⟨(1 + p2).toNat, by omega⟩
  have hw1 : 1 ≤ wide := by omega
  have hw2 : wide ≤ 3 := by omega
  have hwords := fun row => e_words (signs := many) (by omega) hm3 hw2 row
  have hcnt : (wD (wordsP many wide)).length ≤ 1000 := by
    unfold wD
    rw [List.length_map, words_count]
    exact Nat.le_trans (Nat.pow_le_pow_left (show many.toNat ≤ 3 by omega) wide) (Nat.le_trans (Nat.pow_le_pow_right (by decide) hw2) (by decide))
  have hmul : mulF (.int (if p1 = 0 then 1 else 0)) (.int (signs - 2)) = some (.int ((if p1 = 0 then 1 else 0) * (signs - 2))) := mul_i _ _ (by omega) (by omega)
  obtain ⟨ys, zs, row4, e4, hs, hall, h4⟩ := lc_ex (i := 10) (t := u__law_rule_1) (el := c__law_rule_1) (sl := [.val .row, .val (.int signs), .val (.int window), .val (.int most), .val (.int many), .val (.int wide), .val (.int (2 + p3)), .no, .no, .no, .no]) RowIn (fun a b => b = a) (by simp) rfl (wD (wordsP many wide)) row3 h3 (Nat.le_trans hcnt (by decide)) (fun d _ r hr => by
    obtain ⟨p, r', ep, _, _, hr'⟩ := e_pick hr (m := 2 + p3) (by omega) (by omega)
    by_cases c : p = 0
    · exact .inr ⟨r', r', d, by simp [u__law_rule_1, ep, c], by simp [c__law_rule_1], rfl, hr'⟩
    · exact .inl ⟨r', by simp [u__law_rule_1, ep, c], hr'⟩)
  have hyz := hall.id_eq
  subst hyz
  obtain ⟨rows, rfl, hsub⟩ := sub_wD hs
  obtain ⟨p4, row5, e5, a4, b4, h5⟩ := e_pick h4 (m := 3) (by decide) (by decide)
  obtain ⟨p5, row6, e6, a5, b5, h6⟩ := e_pick h5 (m := most - 2) (by omega) (by omega)
  obtain ⟨p6, row7, e7, a6, b6, h7⟩ := e_pick h6 (m := 2) (by decide) (by decide)
  have hasc : (wordsP many wide).Pairwise Before := by
    have hm : many = 2 ∨ many = 3 := by omega
    have hw : wide = 1 ∨ wide = 2 ∨ wide = 3 := by omega
    rcases hm with rfl | rfl <;> rcases hw with rfl | rfl | rfl <;> exact words_asc _ (by simp) _ (by simp)
  obtain ⟨high, hhigh, hh⟩ : ∃ high : Option Int, atI [D.non, .int (1 + p4 + p5)] p6 = some (hD high) ∧ (high = none ∨ high = some (1 + p4 + p5)) := by
    have hp : p6 = 0 ∨ p6 = 1 := by omega
    rcases hp with rfl | rfl
    · exact ⟨none, by simp [hD], .inl rfl⟩
    · exact ⟨some (1 + p4 + p5), by simp [hD], .inr rfl⟩
  refine ⟨⟨many, wide, rows, 1 + p4, high⟩, row7, ?_, h7, ⟨hm2, hm3, hw1, hw2, fun w hw => ?_, asc_of (hasc.sublist hsub), by show 1 ≤ 1 + p4; omega, by show 1 + p4 ≤ 6; omega, fun x hx => ?_, ?_⟩, hms, by show (wide : Int) ≤ window; omega, by show 1 + p4 ≤ 3; omega, fun x hx => ?_⟩
  · simp [F__law_rule, fnM_app, m__law_rule, e1, hmul, hmany, e2, hwide, e3, hwords, e4, e5, e6, e7, hhigh, PR.t, PR.ds]
  · obtain ⟨l1, l2⟩ := words_len many wide w (hsub.subset hw)
    exact ⟨l1, fun x hx => ⟨(l2 x hx).1, by have := (l2 x hx).2; show x ≤ many - 1; omega⟩⟩
  · show 1 + p4 ≤ x ∧ x ≤ 8
    rcases hh with rfl | rfl
    · cases hx
    · cases hx
      omega
  · show rows.length ≤ 1000
    have h9 := hsub.length_le
    have : (wD (wordsP many wide)).length = (wordsP many wide).length := by simp [wD]
    omega
  · show x ≤ 1 + p4 + (most - 3)
    rcases hh with rfl | rfl
    · cases hx
    · cases hx
      omega
theorem e_made {r : PR} (ok : r.Ok) (row : RowS) : F__law_made [r.t] row = .ret r.d row := by
  have := e_Rule ok row
  simp only [PR.ds] at this
  simp [F__law_made, fnM_app, m__law_made, PR.t, PR.ds, this]
end Cut


set_option Elab.async false
set_option linter.all false
set_option maxRecDepth 100000
set_option maxHeartbeats 1000000
/-! Plain, part 7: drawn texts, the law's own cuts, pieces. -/
namespace Cut
open PySem Mi
open L2 (atI ixN atI_nat)
theorem All2.ints {Q : Int → Prop} {ds : List D} : ∀ {ys : List D}, All2 (fun _ y => ∃ x, y = .int x ∧ Q x) ds ys → ∃ l : List Int, ys = l.map D.int ∧ l.length = ds.length ∧ ∀ x ∈ l, Q x
  | _, .nil => ⟨[], rfl, rfl, by simp⟩
  | _, .cons ⟨x, hx, hq⟩ r => by
    obtain ⟨l, h1, h2, h3⟩ := r.ints
    refine ⟨x :: l, by rw [hx, h1]; rfl, by simp [h2], fun y hy => ?_⟩
    rcases List.mem_cons.mp hy with rfl | hy
    · exact hq
    · exact h3 y hy
theorem e_law_text {row : RowS} (h : RowIn row) {r : PR} (ok : r.Ok) {most : Int} (m0 : 0 ≤ most) (m1 : most ≤ 1000) : ∃ (text : List Int) (row' : RowS), F__law_text [.row, r.t, .int most] row = .ret (iD text) row' ∧ RowIn row' ∧ signsOk r text = true ∧ (text.length : Int) ≤ most := by
  obtain ⟨n, row1, e1, a1, b1, h1⟩ := e_pick h (m := most + 1) (by omega) (by omega)
  have hr : range1D [.int n] = some (rngL 0 n) := range1_ok (okI_small (by omega) (by omega))
  obtain ⟨ys, row2, e2, hall, h2⟩ := lc_all (i := 3) (el := c__law_text_1) (sl := [.val .row, .val r.t, .val (.int most), .no]) RowIn (fun _ y => ∃ x, y = .int x ∧ (0 ≤ x ∧ x < r.many)) (by simp) rfl (rngL 0 n) row1 h1 (by unfold rngL; rw [List.length_map, List.length_range]; omega) (fun d _ rw_ hr => by
    obtain ⟨p, r', ep, pa, pb, hr'⟩ := e_pick hr (m := r.many) (by have := ok.m1; omega) (by have := ok.m2; omega)
    exact ⟨r', .int p, by simp [c__law_text_1, PR.t, PR.ds, ep], ⟨p, rfl, pa, pb⟩, hr'⟩)
  obtain ⟨l, rfl, hl, hq⟩ := hall.ints
  refine ⟨l, row2, ?_, h2, ?_, ?_⟩
  · simp [F__law_text, fnM_app, m__law_text, e1, hr, e2, iD]
  · unfold signsOk
    simp only [List.all_eq_true, Bool.and_eq_true, decide_eq_true_eq]
    exact fun x hx => ⟨(hq x hx).1, by have := (hq x hx).2; omega⟩
  · rw [hl]
    unfold rngL
    rw [List.length_map, List.length_range]
    omega
/-! what is no text -/
theorem e_are_signsD (r : PR) (ds : List D) (hd : ∀ d ∈ ds, d ≠ .row) (hl : ds.length ≤ 1000000) (row : RowS) : F_are_signs [r.d, .tup ds] row = .ret (.bl (ds.all fun d => isFrom d 0 (r.many - 1))) row := by
  have key := lc_map (i := 2) (el := c_are_signs_1) (sl := [.val r.d, .val (.tup ds), .no]) (fun d => .bl (isFrom d 0 (r.many - 1))) (by simp) rfl ds row hl (fun d hd' => by
    have := e_is_from d (hd d hd') 0 (r.many - 1) row
    simp [c_are_signs_1, PR.d, PR.ds, this])
  have e : ds.map (fun d => D.bl (isFrom d 0 (r.many - 1))) = ds.map (D.bl ∘ fun d => isFrom d 0 (r.many - 1)) := rfl
  rw [e] at key
  simp [F_are_signs, fnM_app, m_are_signs, key]
theorem not_text_1 (r : PR) (ds : List D) (hd : ∀ d ∈ ds, d ≠ .row) (hl : ds.length ≤ 1000000) (h : (ds.all fun d => isFrom d 0 (r.many - 1)) = false) (row : RowS) : F_is_text [r.d, .tup ds] row = .ret (.bl false) row := by
  have := e_are_signsD r ds hd hl row
  rw [h] at this
  simp [F_is_text, fnM_app, m_is_text, this]
theorem not_text_2 (r : PR) (d : D) (h : isiF "tuple" d = some (.bl false)) (row : RowS) : F_is_text [r.d, d] row = .ret (.bl false) row := by
  have : F_are_signs [r.d, d] row = .ret (.bl false) row := by simp [F_are_signs, fnM_app, m_are_signs, h]
  simp [F_is_text, fnM_app, m_is_text, this]
theorem not_text_3 {r : PR} {l : List Int} (h : signsOk r l = true) (hl : 400 < l.length) (hl2 : l.length ≤ 1000000) (row : RowS) : F_is_text [r.d, iD l] row = .ret (.bl false) row := by
  have h1 := e_are_signs r l hl2 row
  have h2 : ¬ ((l.length : Int) ≤ 400) := by omega
  simp [F_is_text, fnM_app, m_is_text, h1, h, h2]
theorem mul_zeros (n : Nat) (h : n ≤ 1000) : mulF (.tup [.int 0]) (.int n) = some (iD (List.replicate n 0)) := by
  have e : (List.replicate n [D.int 0]).flatten = (List.replicate n (0 : Int)).map D.int := by
    clear h
    induction n with
    | zero => rfl
    | succ n ih => rw [List.replicate_succ, List.replicate_succ, List.flatten_cons, ih]; rfl
  have c : -(2 ^ 63) ≤ (n : Int) ∧ (n : Int) ≤ 1000 ∧ [D.int 0].length ≤ 1000 := ⟨by omega, by omega, by decide⟩
  simp only [mulF, if_pos c, Int.toNat_natCast]
  rw [e]
  rfl
theorem signs_zeros {r : PR} (ok : r.Ok) (n : Nat) : signsOk r (List.replicate n 0) = true := by
  unfold signsOk
  simp only [List.all_eq_true, Bool.and_eq_true, decide_eq_true_eq]
  intro x hx
  have := ok.m1
  rw [List.eq_of_mem_replicate hx]
  omega
theorem e_odd_text {row : RowS} (h : RowIn row) {r : PR} (ok : r.Ok) : ∃ (d : D) (row' : RowS), F__law_odd_text [.row, r.t] row = .ret d row' ∧ RowIn row' ∧ (∀ row, F_is_text [r.d, d] row = .ret (.bl false) row) := by
  obtain ⟨p, row1, e1, a1, b1, h1⟩ := e_pick h (m := 9) (by decide) (by decide)
  have hm := mul_zeros 401 (by decide)
  have hm' : mulF (.tup [.int 0]) (.int 401) = some (iD (List.replicate 401 0)) := hm
  have m1 := ok.m1
  obtain ⟨d, hd, hok⟩ : ∃ d, atI [D.non, .lst [.int 0], .tup [.int r.many], .tup [.int (-1)], .tup [.bl true], iD (List.replicate 401 0), .str "0", .tup [.non], .tup [.tup [.int 0]]] p = some d ∧ ∀ row, F_is_text [r.d, d] row = .ret (.bl false) row := by
    have hp : p = 0 ∨ p = 1 ∨ p = 2 ∨ p = 3 ∨ p = 4 ∨ p = 5 ∨ p = 6 ∨ p = 7 ∨ p = 8 := by omega
    rcases hp with rfl | rfl | rfl | rfl | rfl | rfl | rfl | rfl | rfl
    · exact ⟨_, at_nat (n := 0) rfl, not_text_2 r _ rfl⟩
    · exact ⟨_, at_nat (n := 1) rfl, not_text_2 r _ rfl⟩
    · exact ⟨_, at_nat (n := 2) rfl, not_text_1 r _ (by simp) (by simp) (by simp; omega)⟩
    · exact ⟨_, at_nat (n := 3) rfl, not_text_1 r _ (by simp) (by simp) (by simp)⟩
    · exact ⟨_, at_nat (n := 4) rfl, not_text_1 r _ (by simp) (by simp) (by simp [isFrom])⟩
    · exact ⟨_, at_nat (n := 5) rfl, not_text_3 (signs_zeros ok 401) (by simp) (by simp)⟩
    · exact ⟨_, at_nat (n := 6) rfl, not_text_2 r _ rfl⟩
    · exact ⟨_, at_nat (n := 7) rfl, not_text_1 r _ (by simp) (by simp) (by simp [isFrom])⟩
    · exact ⟨_, at_nat (n := 8) rfl, not_text_1 r _ (by simp) (by simp) (by simp [isFrom])⟩
  refine ⟨d, row1, ?_, h1, hok⟩
  clear hm
  generalize iD (List.replicate 401 0) = z at hm' hd
  simp [F__law_odd_text, fnM_app, m__law_odd_text, PR.t, PR.ds, hm', e1, hd]
end Cut


set_option Elab.async false
set_option linter.all false
set_option maxRecDepth 100000
set_option maxHeartbeats 1000000
/-! Plain, part 8: the law's own cuts are the program's. -/
namespace Cut
open PySem Mi
open L2 (atI ixN atI_nat)
theorem lastN_snoc (w : Nat) (pre : List Int) (s : Int) (hw : 1 ≤ w) : lastN w (lastN w pre ++ [s]) = lastN w (pre ++ [s]) := by
  unfold lastN
  rw [List.length_append, List.length_drop, List.length_append, List.length_singleton]
  by_cases h : pre.length ≤ w
  · have e : pre.length - w = 0 := by omega
    rw [e, List.drop_zero, Nat.sub_zero]
  · have e1 : pre.length - (pre.length - w) + 1 - w = 1 := by omega
    rw [e1, List.drop_append_of_le_length (by simp; omega), List.drop_append_of_le_length (by omega), List.drop_drop]
    congr 2
    omega
theorem lastN_length (w : Nat) (l : List Int) : (lastN w l).length = min w l.length := by
  unfold lastN
  rw [List.length_drop]
  omega
/-- the slice of the law, where there is room -/
theorem cut_last (text pre todo : List Int) (s : Int) (w : Nat) (ht : text = pre ++ s :: todo) (hw : w ≤ pre.length + 1) : cutI text (some (((pre.length + 1 : Nat) : Int) - (w : Int))) (some ((pre.length + 1 : Nat) : Int)) = lastN w (pre ++ [s]) := by
  have e1 : (((pre.length + 1 : Nat) : Int) - (w : Int)) = ((pre.length + 1 - w : Nat) : Int) := by omega
  unfold cutI lastN
  rw [e1, HT.sIx_nat, HT.sIx_nat, ht]
  have h1 : (pre ++ s :: todo).length = pre.length + 1 + todo.length := by simp; omega
  rw [h1, Nat.min_eq_left (by omega), Nat.min_eq_left (by omega)]
  have h2 : pre ++ s :: todo = (pre ++ [s]) ++ todo := by simp
  have h3 : (pre ++ [s]).length = pre.length + 1 := by simp
  rw [h2, List.drop_append_of_le_length (by rw [h3]; omega), List.take_append_of_le_length (by rw [List.length_drop, h3]; omega), h3]
  rw [List.take_of_length_le (by rw [List.length_drop, h3]; exact Nat.le_refl _)]
/-- the stand behind a text's begin, by where the piece began -/
structure At (r : PR) (st : Stand) (pre : List Int) (b : Int) : Prop where
  last : st.1 = lastN r.wide pre
  le : b ≤ pre.length
  len : st.2 = match r.high with
    | some _ => (pre.length : Int) - b
    | none => min ((pre.length : Int) - b) r.low
theorem does_law {r : PR} (ok : r.Ok) {st : Stand} {pre todo text : List Int} {b s : Int} (a : At r st pre b) (ht : text = pre ++ s :: todo) :
    does r st s = ((decide (r.low ≤ ((pre.length + 1 : Nat) : Int) - b) && (decide ((r.wide : Int) ≤ ((pre.length + 1 : Nat) : Int)) && decide (cutI text (some (((pre.length + 1 : Nat) : Int) - (r.wide : Int))) (some ((pre.length + 1 : Nat) : Int)) ∈ r.rows))) || decide (some (((pre.length + 1 : Nat) : Int) - b) = r.high)) := by
  have hlow : r.low ≤ st.2 + 1 ↔ r.low ≤ ((pre.length + 1 : Nat) : Int) - b := by
    have hl := a.len
    have h1 := ok.l1
    cases hh : r.high with
    | none =>
      rw [hh] at hl
      simp only at hl
      rw [hl]
      omega
    | some h =>
      rw [hh] at hl
      simp only at hl
      rw [hl]
      omega
  have hmem : lastN r.wide (st.1 ++ [s]) ∈ r.rows ↔ ((r.wide : Int) ≤ ((pre.length + 1 : Nat) : Int)) ∧ cutI text (some (((pre.length + 1 : Nat) : Int) - (r.wide : Int))) (some ((pre.length + 1 : Nat) : Int)) ∈ r.rows := by
    rw [a.last, lastN_snoc _ _ _ ok.w1]
    by_cases c : r.wide ≤ pre.length + 1
    · rw [cut_last text pre todo s r.wide ht c]
      constructor
      · exact fun h => ⟨by omega, h⟩
      · exact fun h => h.2
    · constructor
      · intro h
        have := (ok.ws _ h).1
        rw [lastN_length] at this
        simp at this
        omega
      · intro h
        omega
  have hhi : some (st.2 + 1) = r.high ↔ some (((pre.length + 1 : Nat) : Int) - b) = r.high := by
    have hl := a.len
    cases hh : r.high with
    | none => simp
    | some h =>
      rw [hh] at hl
      simp only at hl
      simp only [Option.some.injEq]
      rw [hl]
      omega
  have d1 : decide (r.low ≤ st.2 + 1) = decide (r.low ≤ ((pre.length + 1 : Nat) : Int) - b) := decide_eq_decide.mpr hlow
  have d2 : decide (some (st.2 + 1) = r.high) = decide (some (((pre.length + 1 : Nat) : Int) - b) = r.high) := decide_eq_decide.mpr hhi
  have d3 : decide (lastN r.wide (st.1 ++ [s]) ∈ r.rows) = (decide ((r.wide : Int) ≤ ((pre.length + 1 : Nat) : Int)) && decide (cutI text (some (((pre.length + 1 : Nat) : Int) - (r.wide : Int))) (some ((pre.length + 1 : Nat) : Int)) ∈ r.rows)) := by
    rw [← Bool.decide_and]
    exact decide_eq_decide.mpr hmem
  unfold does
  rw [d1, d2, d3]
theorem At.cut {r : PR} (ok : r.Ok) {st : Stand} {pre : List Int} {b s : Int} (a : At r st pre b) (h : does r st s = true) : At r (stepP r st s) (pre ++ [s]) ((pre.length + 1 : Nat) : Int) := by
  refine ⟨?_, by simp, ?_⟩
  · show lastN r.wide (st.1 ++ [s]) = _
    rw [a.last, lastN_snoc _ _ _ ok.w1]
  · show (if does r st s = true then (0 : Int) else _) = _
    rw [if_pos h]
    have h1 := ok.l1
    cases r.high with
    | none => simp; omega
    | some h => simp
theorem At.on {r : PR} (ok : r.Ok) {st : Stand} {pre : List Int} {b s : Int} (a : At r st pre b) (h : does r st s = false) : At r (stepP r st s) (pre ++ [s]) b := by
  refine ⟨?_, ?_, ?_⟩
  · show lastN r.wide (st.1 ++ [s]) = _
    rw [a.last, lastN_snoc _ _ _ ok.w1]
  · have := a.le
    simp
    omega
  · show (if does r st s = true then (0 : Int) else match r.high with
      | some _ => st.2 + 1
      | none => min (st.2 + 1) r.low) = _
    rw [if_neg (by rw [h]; exact Bool.false_ne_true)]
    have hl := a.len
    cases hh : r.high with
    | none =>
      rw [hh] at hl
      simp only at hl ⊢
      rw [hl]
      simp
      omega
    | some x =>
      rw [hh] at hl
      simp only at hl ⊢
      rw [hl]
      simp
      omega
theorem At.begin (r : PR) (ok : r.Ok) : At r begin0 [] 0 := by
  refine ⟨by simp [begin0, lastN], by simp, ?_⟩
  have := ok.l1
  cases r.high with
  | none => simp [begin0]; omega
  | some h => simp [begin0]
/-- the numbers from k + 1 on -/
def upFrom (k n : Nat) : List D := (List.range n).map fun i => .int ((k + 1 + i : Nat) : Int)
theorem upFrom_succ (k n : Nat) : upFrom k (n + 1) = .int ((k + 1 : Nat) : Int) :: upFrom (k + 1) n := by
  unfold upFrom
  rw [List.range_succ_eq_map, List.map_cons, List.map_map]
  congr 1
  apply List.map_congr_left
  intro i _
  simp
  omega
theorem rngL_up (n : Nat) : rngL 1 ((n + 1 : Nat) : Int) = upFrom 0 n := by
  unfold rngL upFrom
  have e : (((n + 1 : Nat) : Int) - 1).toNat = n := by omega
  rw [e]
  apply List.map_congr_left
  intro i _
  simp
theorem law_cuts_loop {r : PR} (ok : r.Ok) (text : List Int) (row : RowS) : ∀ (todo pre found : List Int) (st : Stand) (b : Int) (s2 s5 : Mi.Slot), text = pre ++ todo → At r st pre b → found.length + todo.length ≤ 1000000 → ∃ s2' s3' s5',
    forM' (gN 2) b__law_cuts_1 (upFrom pre.length todo.length) ⟨[.val r.t, .val (iD text), s2, .val (.int b), .own (.lst (found.map D.int)), s5], row⟩ = .ok .nx ⟨[.val r.t, .val (iD text), s2', s3', .own (.lst ((found ++ runP r st pre.length todo).map D.int)), s5'], row⟩
  | [], pre, found, st, b, s2, s5, _, _, _ => ⟨s2, .val (.int b), s5, by simp [upFrom, runP]⟩
  | s :: todo, pre, found, st, b, s2, s5, ht, a, hz => by
    have hd := does_law ok (todo := todo) (s := s) a ht
    have hz' : found.length + 1 ≤ 1000000 := by simp at hz; omega
    have ht' : text = (pre ++ [s]) ++ todo := by simp [ht]
    have e0 : (pre ++ [s]).length = pre.length + 1 := by simp
    have hhi := hD_eq (((pre.length + 1 : Nat) : Int) - b) r.high
    rw [List.length_cons, upFrom_succ]
    generalize hE : ((pre.length + 1 : Nat) : Int) = E at *
    cases hdo : does r st s with
    | true =>
      rw [hdo] at hd
      have a' := a.cut ok hdo
      obtain ⟨x, y, z, ih⟩ := law_cuts_loop ok text row todo (pre ++ [s]) (found ++ [E]) (stepP r st s) E (.val (.int E)) (.val (.bl (decide (r.low ≤ E - b) && (decide ((r.wide : Int) ≤ E) && decide (cutI text (some (E - (r.wide : Int))) (some E) ∈ r.rows))))) ht' (by rw [hE] at a'; exact a') (by simp at hz ⊢; omega)
      refine ⟨x, y, z, ?_⟩
      rw [e0] at ih
      have hb : b__law_cuts_1 ⟨[.val r.t, .val (iD text), .val (.int E), .val (.int b), .own (.lst (found.map D.int)), s5], row⟩ = .ok .nx ⟨[.val r.t, .val (iD text), .val (.int E), .val (.int E), .own (.lst ((found ++ [E]).map D.int)), .val (.bl (decide (r.low ≤ E - b) && (decide ((r.wide : Int) ≤ E) && decide (cutI text (some (E - (r.wide : Int))) (some E) ∈ r.rows))))], row⟩ := by
        by_cases c1 : r.low ≤ E - b <;> by_cases c2 : (r.wide : Int) ≤ E <;> by_cases c3 : cutI text (some (E - (r.wide : Int))) (some E) ∈ r.rows <;> by_cases c4 : some (E - b) = r.high <;> simp [c1, c2, c3, c4] at hd hhi <;> simp [b__law_cuts_1, PR.t, PR.ds, c1, c2, c3, c4, hhi, hz']
      rw [for_nx (e1 := ⟨[.val r.t, .val (iD text), .val (.int E), .val (.int b), .own (.lst (found.map D.int)), s5], row⟩) (by simp) hb, ih]
      simp [runP, hdo, ← hE]
    | false =>
      rw [hdo] at hd
      have a' := a.on ok hdo
      obtain ⟨x, y, z, ih⟩ := law_cuts_loop ok text row todo (pre ++ [s]) found (stepP r st s) b (.val (.int E)) (.val (.bl (decide (r.low ≤ E - b) && (decide ((r.wide : Int) ≤ E) && decide (cutI text (some (E - (r.wide : Int))) (some E) ∈ r.rows))))) ht' a' (by simp at hz ⊢; omega)
      refine ⟨x, y, z, ?_⟩
      rw [e0] at ih
      have hb : b__law_cuts_1 ⟨[.val r.t, .val (iD text), .val (.int E), .val (.int b), .own (.lst (found.map D.int)), s5], row⟩ = .ok .nx ⟨[.val r.t, .val (iD text), .val (.int E), .val (.int b), .own (.lst (found.map D.int)), .val (.bl (decide (r.low ≤ E - b) && (decide ((r.wide : Int) ≤ E) && decide (cutI text (some (E - (r.wide : Int))) (some E) ∈ r.rows))))], row⟩ := by
        by_cases c1 : r.low ≤ E - b <;> by_cases c2 : (r.wide : Int) ≤ E <;> by_cases c3 : cutI text (some (E - (r.wide : Int))) (some E) ∈ r.rows <;> by_cases c4 : some (E - b) = r.high <;> simp [c1, c2, c3, c4] at hd hhi <;> simp [b__law_cuts_1, PR.t, PR.ds, c1, c2, c3, c4, hhi, hz']
      rw [for_nx (e1 := ⟨[.val r.t, .val (iD text), .val (.int E), .val (.int b), .own (.lst (found.map D.int)), s5], row⟩) (by simp) hb, ih]
      simp [runP, hdo]
theorem e_law_cuts {r : PR} (ok : r.Ok) (text : List Int) (hl : text.length ≤ 1000) (row : RowS) : F__law_cuts [r.t, iD text] row = .ret (lD (cutsP r text)) row := by
  obtain ⟨x, y, z, h⟩ := law_cuts_loop ok text row text [] [] begin0 0 .no .no rfl (At.begin r ok) (by simp; omega)
  have hr : range2D [.int 1, .int ((text.length : Int) + 1)] = some (upFrom 0 text.length) := by
    rw [range2_ok (by decide) (okI_small (by omega) (by omega))]
    have := rngL_up text.length
    simpa using this
  simp only [List.length_nil, List.map_nil, List.nil_append] at h
  simp [F__law_cuts, fnM_app, m__law_cuts, hr, h, lD, cutsP]
end Cut


set_option Elab.async false
set_option linter.all false
set_option maxRecDepth 100000
set_option maxHeartbeats 1000000
/-! Plain, part 10: try. -/
namespace Cut
open PySem Mi
open L2 (atI ixN atI_nat)
def tcR (cs : List Str) (hs : List (Str × Nat × M Fl)) (r : Res Fl) : Res Fl := match r with
  | .exc x e' => tryH cs x e' hs
  | r => r
@[simp] theorem tcR_ok (cs : List Str) (hs : List (Str × Nat × M Fl)) (fl : Fl) (e : Mi.Env) : tcR cs hs (.ok fl e) = .ok fl e := rfl
@[simp] theorem tcR_exc (cs : List Str) (hs : List (Str × Nat × M Fl)) (x : Exn) (e : Mi.Env) : tcR cs hs (.exc x e) = tryH cs x e hs := rfl
@[simp ↓] theorem tryM_app (cs : List Str) (b : M Fl) (hs : List (Str × Nat × M Fl)) (e : Mi.Env) : tryM cs b hs e = tcR cs hs (b e) := by
  unfold tryM tcR
  cases b e <;> rfl
theorem try_hit {cs : List Str} {c d : Str} {i : Nat} {m : M Fl} {hs : List (Str × Nat × M Fl)} {e : Mi.Env} (h1 : cs.contains c = true) (h2 : exSub c d = true) : tryH cs ⟨c, []⟩ e ((d, i, m) :: hs) = hdM i m e := by
  unfold tryH
  simp only [h1, List.isEmpty_nil, Bool.and_self, if_true, h2]
end Cut


set_option Elab.async false
set_option linter.all false
set_option maxRecDepth 100000
set_option maxHeartbeats 1000000
/-! Plain, part 11: things picked out of lists; more of cuts; stands. -/
namespace Cut
open PySem Mi
open L2 (atI ixN atI_nat)
/-- the things that stand a test, told -/
theorem lc_filter {i : Nat} {t : M Bool} {el : M D} {sl : List Mi.Slot} (f : D → D) (g : D → Bool) (hi : i < sl.length) (hno : (((sl[i]?).getD .no).isOwn) = false) (ds : List D) (row : RowS) (hl : ds.length ≤ 1000000)
    (ht : ∀ d ∈ ds, t ⟨sl.set i (.val d), row⟩ = .ok (g d) ⟨sl.set i (.val d), row⟩) (he : ∀ d ∈ ds, g d = true → el ⟨sl.set i (.val d), row⟩ = .ok (f d) ⟨sl.set i (.val d), row⟩) :
    lcRun (gN i) t el [i] ds ⟨sl, row⟩ = .ok (.lst ((ds.filter g).map f)) ⟨sl, row⟩ := by
  have go : ∀ (ds acc : List D), (acc.length + ds.length ≤ 1000000) → (∀ d ∈ ds, t ⟨sl.set i (.val d), row⟩ = .ok (g d) ⟨sl.set i (.val d), row⟩) → (∀ d ∈ ds, g d = true → el ⟨sl.set i (.val d), row⟩ = .ok (f d) ⟨sl.set i (.val d), row⟩) →
      lcGo (gN i) t el [i] ds acc ⟨sl.set i .no, row⟩ = .ok (acc ++ (ds.filter g).map f) ⟨sl.set i .no, row⟩ := by
    intro ds
    induction ds with
    | nil => exact fun acc _ _ _ => by simp
    | cons d ds ih =>
      intro acc hl ht he
      have t1 := ht d List.mem_cons_self
      have hz : acc.length + 1 ≤ 1000000 := by simp at hl; omega
      rw [lcGo_cons]
      cases hg : g d with
      | false =>
        rw [hg] at t1
        have h1 := ih acc (by simp at hl ⊢; omega) (fun x hx => ht x (List.mem_cons_of_mem _ hx)) fun x hx => he x (List.mem_cons_of_mem _ hx)
        simp [hi, List.set_set, t1, wipeE, wipe_one, h1, hg]
      | true =>
        rw [hg] at t1
        have e1 := he d List.mem_cons_self hg
        have h1 := ih (acc ++ [f d]) (by simp at hl ⊢; omega) (fun x hx => ht x (List.mem_cons_of_mem _ hx)) fun x hx => he x (List.mem_cons_of_mem _ hx)
        simp [hi, hz, List.set_set, t1, e1, wipeE, wipe_one, h1, hg]
  unfold lcRun
  have hn : noOwn sl [i] = true := by simp [noOwn, hno]
  simp only [hn, if_true]
  have hw : wipeE ⟨sl, row⟩ [i] = ⟨sl.set i .no, row⟩ := rfl
  rw [hw, go ds [] (by simpa using hl) ht he]
  simp [restE, rest_one sl i hi]
theorem filter_ints (l : List Int) (g : D → Bool) (q : Int → Bool) (h : ∀ x ∈ l, g (.int x) = q x) : (l.map D.int).filter g = (l.filter q).map D.int := by
  rw [List.filter_map]
  congr 1
  apply List.filter_congr
  exact h
@[simp] theorem len_lD (l : List Int) : lenF (lD l) = some (.int l.length) := by simp [lD]
@[simp] theorem itemsD_lD (l : List Int) : itemsD (lD l) = some (l.map D.int) := rfl
@[simp] theorem items_lD (l : List Int) : D.items (lD l) = some (l.map D.int) := rfl
@[simp] theorem ix_lD (l : List Int) (i : Int) : ixF (lD l) (.int i) = atI (l.map D.int) i := rfl
theorem any_int (l : List Int) (x : Int) : ((l.map D.int).any fun z => z.eqv (.int x)) = decide (x ∈ l) := by
  induction l with
  | nil => rfl
  | cons y l ih =>
    simp only [List.map_cons, List.any_cons, ih]
    have e : (D.int y).eqv (.int x) = decide (y = x) := rfl
    rw [e]
    by_cases h : y = x <;> by_cases h' : x ∈ l <;> simp [h, h', eq_comm (a := x)]
@[simp] theorem in_lD (x : Int) (l : List Int) : inF false (.int x) (lD l) = some (.bl (decide (x ∈ l))) := by
  have h1 : (D.int x).plain 20 = true := rfl
  unfold inF lD
  simp only [h1, plains_ints, Bool.and_self, if_true, Bool.false_eq_true, if_false, any_int]
@[simp] theorem notin_lD (x : Int) (l : List Int) : inF true (.int x) (lD l) = some (.bl (!decide (x ∈ l))) := by
  have h1 : (D.int x).plain 20 = true := rfl
  unfold inF lD
  simp only [h1, plains_ints, Bool.and_self, if_true, any_int]
/-! cuts, further on -/
theorem runP_append (r : PR) : ∀ (a b : List Int) (st : Stand) (k : Nat), runP r st k (a ++ b) = runP r st k a ++ runP r (endP r st a) (k + a.length) b
  | [], b, st, k => by simp [runP, endP]
  | s :: a, b, st, k => by
    have e : k + 1 + a.length = k + (a.length + 1) := by omega
    have ih := runP_append r a b (stepP r st s) (k + 1)
    rw [e] at ih
    show (if does r st s = true then [((k + 1 : Nat) : Int)] else []) ++ runP r (stepP r st s) (k + 1) (a ++ b) = ((if does r st s = true then [((k + 1 : Nat) : Int)] else []) ++ runP r (stepP r st s) (k + 1) a) ++ runP r (endP r (stepP r st s) a) (k + (a.length + 1)) b
    rw [ih, List.append_assoc]
theorem runP_mem (r : PR) : ∀ (t : List Int) (st : Stand) (k : Nat) (x : Int), x ∈ runP r st k t → (k : Int) < x ∧ x ≤ (k : Int) + t.length
  | [], _, _, x, h => by cases h
  | s :: t, st, k, x, h => by
    unfold runP at h
    rw [List.mem_append] at h
    rw [List.length_cons]
    rcases h with h | h
    · split at h
      · have := List.mem_singleton.mp h
        omega
      · cases h
    · have := runP_mem r t (stepP r st s) (k + 1) x h
      omega
/-! stands -/
end Cut

set_option Elab.async false
set_option linter.all false
set_option maxRecDepth 100000
set_option maxHeartbeats 1000000
namespace Cut
open PySem Mi
open L2 (atI ixN atI_nat)
/-! P13a: what a desk answers -/
def rwsD (ts : List (List Int)) : D := .tup (wD ts)
theorem at_neg1 (l : List D) (x : D) : atI (l ++ [x]) (-1) = some x := by
  have e : (-1 : Int) + ((l ++ [x]).length : Int) = (l.length : Int) := by
    rw [List.length_append]
    simp
    omega
  unfold atI ixN
  rw [if_neg (by decide), if_pos (by rw [List.length_append]; simp; omega), e]
  simp
theorem ix_last (p : List (List Int)) (t : List Int) : ixF (rwsD (p ++ [t])) (.int (-1)) = some (iD t) := by
  show atI (wD (p ++ [t])) (-1) = _
  rw [show wD (p ++ [t]) = wD p ++ [iD t] from List.map_append]
  exact at_neg1 _ _
theorem dn_app (k : Nat) (b : M Fl) (o r : D) (ds : List D) (row : RowS) : dnM k b o r ds row = (match b ⟨.dsk true o r :: ds.map Slot.val ++ List.replicate k .no, row⟩ with
  | .ok (.rt d) e => (match deskOf e.sl with
    | some p => .ret d p.1 p.2 e.row
    | none => .err)
  | .ok .nx e => (match deskOf e.sl with
    | some p => .ret .non p.1 p.2 e.row
    | none => .err)
  | .ok _ _ => .err
  | .exc x e => (match deskOf e.sl with
    | some p => .exc x p.1 p.2 e.row
    | none => .err)
  | .err => .err) := rfl
theorem e_D_rule (o r : D) (row : RowS) : F_D_rule o r [] row = .ret o o r row := by
  simp [F_D_rule, dn_app, m_D_rule, dskO, deskOf]
theorem e_D_text (o : D) (p : List (List Int)) (t : List Int) (row : RowS) : F_D_text o (rwsD (p ++ [t])) [] row = .ret (iD t) o (rwsD (p ++ [t])) row := by
  simp [F_D_text, dn_app, m_D_text, dskR, deskOf, ix_last]
theorem e_D_places {r : PR} (ok : r.Ok) (p : List (List Int)) (t : List Int) (hl : t.length ≤ 1000000) (row : RowS) : F_D_places r.d (rwsD (p ++ [t])) [] row = .ret (lD (cutsP r t)) r.d (rwsD (p ++ [t])) row := by
  have h := e_cuts_of ok.w1 (by have := ok.w2; omega) t hl row
  simp [F_D_places, dn_app, m_D_places, dskR, dskO, deskOf, ix_last, h]
theorem e_D_len (o : D) (t0 : List Int) (ts : List (List Int)) (row : RowS) : F_D___len__ o (rwsD (t0 :: ts)) [] row = .ret (.int ts.length) o (rwsD (t0 :: ts)) row := by
  have h : cutF (rwsD (t0 :: ts)) (some 1) none = some (D.tup (wD ts)) := by
    show some (D.tup (cutD (wD (t0 :: ts)) (some 1) none)) = _
    simp [cutD, HT.sIx, wD, List.take_of_length_le]
  simp [F_D___len__, dn_app, m_D___len__, dskR, deskOf, h, wD]
theorem cut_init (p : List (List Int)) (t : List Int) : cutF (rwsD (p ++ [t])) none (some (-1)) = some (rwsD p) := by
  show some (D.tup (cutD (wD (p ++ [t])) none (some (-1)))) = _
  have e : (-1 + ((p.length : Int) + 1)).toNat = (List.map iD p).length := by
    rw [List.length_map]
    omega
  simp [cutD, HT.sIx, wD, rwsD]
  rw [e, List.take_left]
theorem e_D_undo0 (o : D) (t : List Int) (row : RowS) : F_D_undo o (rwsD [t]) [] row = .ret (.bl false) o (rwsD [t]) row := by
  simp [F_D_undo, dn_app, m_D_undo, dskR, deskOf, rwsD, wD]
theorem e_D_undo (o : D) (p : List (List Int)) (s t : List Int) (row : RowS) : F_D_undo o (rwsD (p ++ [s] ++ [t])) [] row = .ret (.bl true) o (rwsD (p ++ [s])) row := by
  have h := cut_init (p ++ [s]) t
  have h2 : lenF (rwsD (p ++ [s] ++ [t])) = some (.int ((p.length + 2 : Nat) : Int)) := by
    simp [lenF, rwsD, wD]
  have h3 : eqF (.int ((p.length + 2 : Nat) : Int)) (.int 1) = some (.bl false) := by
    have : ((p.length + 2 : Nat) : Int) ≠ 1 := by omega
    simp
    omega
  generalize rwsD (p ++ [s] ++ [t]) = x at *
  generalize rwsD (p ++ [s]) = y at *
  generalize ((p.length + 2 : Nat) : Int) = n at *
  simp [F_D_undo, dn_app, m_D_undo, dskR, dskSet, deskOf, h, h2, h3]
end Cut

set_option Elab.async false
set_option linter.all false
set_option maxRecDepth 100000
set_option maxHeartbeats 1000000
namespace Cut
open PySem Mi
open L2 (atI ixN atI_nat)
/-! P13b: what waits at a desk; a telling -/
/-- what stands behind the last cut -/
def waitP (r : PR) (t : List Int) : List Int := cutI t (some (((0 : Int) :: cutsP r t).getLast (by simp))) none
theorem at_last0 (l : List Int) : atI (((0 : Int) :: l).map D.int) (-1) = some (.int (((0 : Int) :: l).getLast (by simp))) := by
  have h := List.dropLast_concat_getLast (show ((0 : Int) :: l) ≠ [] by simp)
  generalize hx : ((0 : Int) :: l).getLast (by simp) = x at *
  rw [← h, List.map_append]
  exact at_neg1 _ _
theorem e_D_waits {r : PR} (ok : r.Ok) (p : List (List Int)) (t : List Int) (hl : t.length ≤ 900000) (row : RowS) : F_D_waits r.d (rwsD (p ++ [t])) [] row = .ret (iD (waitP r t)) r.d (rwsD (p ++ [t])) row := by
  have h := e_D_places ok p t (Nat.le_trans hl (by decide)) row
  have h2 := at_last0 (cutsP r t)
  have h3 : cutF (iD t) (some (((0 : Int) :: cutsP r t).getLast (by simp))) none = some (iD (waitP r t)) := by
    obtain ⟨m, hm, e⟩ := cutD_map t (some (((0 : Int) :: cutsP r t).getLast (by simp))) none
    show some (D.tup (cutD (t.map D.int) _ _)) = _
    rw [hm, e]
    rfl
  have h4 := ix_last p t
  have h5 : ixF (.lst (.int 0 :: (cutsP r t).map D.int)) (.int (-1)) = some (.int (((0 : Int) :: cutsP r t).getLast (by simp))) := h2
  have h6 : ∀ e : Mi.Env, small (D.int 0 :: (cutsP r t).map D.int) e = .ok () e := fun e => small_ok (by
    have := runP_length r t begin0 0
    rw [List.length_cons, List.length_map]
    show (runP r begin0 0 t).length + 1 ≤ _
    omega) e
  generalize ((0 : Int) :: cutsP r t).getLast (by simp) = z at *
  generalize rwsD (p ++ [t]) = y at *
  simp [F_D_waits, dn_app, m_D_waits, callD, dskR, deskOf, h, h3, h4, h5, h6, lD]
end Cut

set_option Elab.async false
set_option linter.all false
set_option maxRecDepth 100000
set_option maxHeartbeats 1000000
namespace Cut
open PySem Mi
open L2 (atI ixN atI_nat)
/-! P13c: tellings -/
theorem cut_from (l : List Int) (k : Nat) : cutF (lD l) (some (k : Int)) none = some (lD (l.drop k)) := by
  show some (D.lst (cutD (l.map D.int) _ _)) = _
  obtain ⟨m, hm, e⟩ := cutD_map l (some (k : Int)) none
  rw [hm, e]
  unfold lD
  have h1 : HT.sIx l.length l.length none = l.length := rfl
  rw [h1]
  have h2 : HT.sIx l.length 0 (some (k : Int)) = min k l.length := by
    simp [HT.sIx]
    omega
  rw [h2]
  by_cases c : k ≤ l.length
  · rw [Nat.min_eq_left c, List.take_of_length_le (by rw [List.length_drop]; omega)]
  · rw [Nat.min_eq_right (by omega), List.drop_of_length_le (by omega : l.length ≤ l.length), List.drop_of_length_le (by omega : l.length ≤ k), List.take_nil]
theorem e_tell_odd {r : PR} {d : D} (R : D) (row : RowS) (h : F_is_text [r.d, d] row = .ret (.bl false) row) : F_D_tell r.d R [d] row = .exc ⟨"BadText", []⟩ r.d R row := by
  have h1 := e_check_text_bad h
  simp [F_D_tell, dn_app, m_D_tell, dskO, deskOf, h1]
end Cut

set_option Elab.async false
set_option linter.all false
set_option maxRecDepth 100000
set_option maxHeartbeats 1000000
namespace Cut
open PySem Mi
open L2 (atI ixN atI_nat)
/-! P13d: calls that lend a desk, at a state; a telling -/
def isDk (s : Option Mi.Slot) : Bool := match s with
  | some (.dsk _ _ _) => true
  | _ => false
@[simp] theorem isDk_dsk (l : Bool) (o q : D) : isDk (some (.dsk l o q)) = true := rfl
def drR (i : Nat) (l : Bool) (x : DRes) (e : Mi.Env) : Res D := match x with
  | .ret d o' q' row' => .ok d ⟨e.sl.set i (.dsk l o' q'), row'⟩
  | .exc x o' q' row' => .exc x ⟨e.sl.set i (.dsk l o' q'), row'⟩
  | .err => .err
@[simp] theorem drR_ret (i : Nat) (l : Bool) (d o q : D) (row : RowS) (e : Mi.Env) : drR i l (.ret d o q row) e = .ok d ⟨e.sl.set i (.dsk l o q), row⟩ := rfl
@[simp] theorem drR_exc (i : Nat) (l : Bool) (x : Exn) (o q : D) (row : RowS) (e : Mi.Env) : drR i l (.exc x o q row) e = .exc x ⟨e.sl.set i (.dsk l o q), row⟩ := rfl
def cdR (i : Nat) (f : DnM) (ds : List D) (s : Option Mi.Slot) (e : Mi.Env) : Res D := match s with
  | some (.dsk l o q) => drR i l (f o q ds e.row) e
  | _ => .err
@[simp] theorem cdR_dsk (i : Nat) (f : DnM) (ds : List D) (l : Bool) (o q : D) (e : Mi.Env) : cdR i f ds (some (.dsk l o q)) e = drR i l (f o q ds e.row) e := rfl
@[simp ↓] theorem callD_app (i : Nat) (f : DnM) (r : M (List D)) (e : Mi.Env) : callD i f r e = iteR (isDk e.sl[i]?) (bindM r fun ds e => cdR i f ds e.sl[i]? e) errM e := by
  unfold callD iteR
  generalize e.sl[i]? = s0
  cases s0 with
  | none => rfl
  | some s => cases s with
    | dsk l o q =>
      show bindM r _ e = bindM r _ e
      refine congrFun (congrArg (bindM r) (funext fun ds => funext fun e1 => ?_)) e
      unfold cdR
      cases e1.sl[i]? with
      | none => rfl
      | some s => cases s with
        | dsk l o q =>
          dsimp only
          unfold drR
          cases f o q ds e1.row <;> rfl
        | _ => rfl
    | _ => rfl
def pdR (i : Nat) (g : DnM) (s : Option Mi.Slot) (e : Mi.Env) : Res D := match s with
  | some (.dsk l o r) => (match g o r [] e.row with
    | .ret d o' r' row' => .ok d ⟨e.sl.set i (.dsk l o' r'), row'⟩
    | _ => .err)
  | _ => .err
@[simp ↓] theorem propD_app (i : Nat) (g : DnM) (e : Mi.Env) : propD i g e = pdR i g e.sl[i]? e := rfl
theorem pdR_ok {i : Nat} {g : DnM} {l : Bool} {o r d : D} {sl : List Mi.Slot} {row : RowS} (h : g o r [] row = .ret d o r row) : pdR i g (some (.dsk l o r)) ⟨sl, row⟩ = .ok d ⟨sl.set i (.dsk l o r), row⟩ := by
  unfold pdR
  simp only [h]
def dkR (s : Option Mi.Slot) (e : Mi.Env) : Res D := match s with
  | some (.dsk _ _ r) => .ok r e
  | _ => .err
def dkO (s : Option Mi.Slot) (e : Mi.Env) : Res D := match s with
  | some (.dsk _ o _) => .ok o e
  | _ => .err
@[simp] theorem dkR_dsk (l : Bool) (o r : D) (e : Mi.Env) : dkR (some (.dsk l o r)) e = .ok r e := rfl
@[simp] theorem dkO_dsk (l : Bool) (o r : D) (e : Mi.Env) : dkO (some (.dsk l o r)) e = .ok o e := rfl
@[simp ↓] theorem dskR_app (i : Nat) (e : Mi.Env) : dskR i e = dkR e.sl[i]? e := rfl
@[simp ↓] theorem dskO_app (i : Nat) (e : Mi.Env) : dskO i e = dkO e.sl[i]? e := rfl
def dsR (i : Nat) (d : D) (s : Option Mi.Slot) (e : Mi.Env) : Res Fl := match s with
  | some (.dsk l o _) => .ok .nx { e with sl := e.sl.set i (.dsk l o d) }
  | _ => .err
@[simp] theorem dsR_dsk (i : Nat) (d : D) (l : Bool) (o r : D) (e : Mi.Env) : dsR i d (some (.dsk l o r)) e = .ok .nx { e with sl := e.sl.set i (.dsk l o d) } := rfl
@[simp ↓] theorem dskSet_app (i : Nat) (m : M D) (e : Mi.Env) : dskSet i m e = (m e).bind fun d e => dsR i d e.sl[i]? e := by
  unfold dskSet bindM Res.bind
  cases m e with
  | ok d e1 =>
    show (match e1.sl[i]? with
      | some (.dsk l o _) => Res.ok Fl.nx { e1 with sl := e1.sl.set i (.dsk l o d) }
      | _ => .err) = dsR i d e1.sl[i]? e1
    rfl
  | exc x e1 => rfl
  | err => rfl
/-- what a def with a desk answers -/
def dnR (r : Res Fl) : DRes := match r with
  | .ok (.rt d) e => (match deskOf e.sl with
    | some p => .ret d p.1 p.2 e.row
    | none => .err)
  | .ok .nx e => (match deskOf e.sl with
    | some p => .ret .non p.1 p.2 e.row
    | none => .err)
  | .ok _ _ => .err
  | .exc x e => (match deskOf e.sl with
    | some p => .exc x p.1 p.2 e.row
    | none => .err)
  | .err => .err
@[simp] theorem dnR_rt (d o r : D) (sl : List Mi.Slot) (row : RowS) : dnR (.ok (.rt d) ⟨.dsk true o r :: sl, row⟩) = .ret d o r row := rfl
@[simp] theorem dnR_exc (x : Exn) (o r : D) (sl : List Mi.Slot) (row : RowS) : dnR (.exc x ⟨.dsk true o r :: sl, row⟩) = .exc x o r row := rfl
theorem dn_app2 (k : Nat) (b : M Fl) (o r : D) (ds : List D) (row : RowS) : dnM k b o r ds row = dnR (b ⟨.dsk true o r :: ds.map Slot.val ++ List.replicate k .no, row⟩) := rfl
/-! a telling -/
/-- cuts behind a place -/
def cutsF (r : PR) (t l : List Int) : List Int := (cutsP r (t ++ l)).filter fun x => decide ((t.length : Int) < x)
theorem cuts_drop (r : PR) (t l : List Int) : (cutsP r (t ++ l)).drop (cutsP r t).length = cutsF r t l := by
  unfold cutsF cutsP
  rw [runP_append, List.drop_left, List.filter_append]
  have h1 : (runP r begin0 0 t).filter (fun x => decide ((t.length : Int) < x)) = [] := by
    rw [List.filter_eq_nil_iff]
    intro x hx
    have := runP_mem r t begin0 0 x hx
    simp
    omega
  have h2 : (runP r (endP r begin0 t) (0 + t.length) l).filter (fun x => decide ((t.length : Int) < x)) = runP r (endP r begin0 t) (0 + t.length) l := by
    rw [List.filter_eq_self]
    intro x hx
    have := runP_mem r l (endP r begin0 t) (0 + t.length) x hx
    simp
    omega
  rw [h1, h2, List.nil_append]
theorem e_tell {r : PR} (ok : r.Ok) (p : List (List Int)) (t l : List Int) (hp : p.length ≤ 1000) (hs : signsOk r l = true) (hl : t.length + l.length ≤ 400) (row : RowS) :
    F_D_tell r.d (rwsD (p ++ [t])) [iD l] row = .ret (lD (cutsF r t l)) r.d (rwsD (p ++ [t] ++ [t ++ l])) row := by
  have h1 := e_check_text hs (by omega) row
  have h2 := ix_last p t
  have h3 := e_D_places ok p t (by omega) row
  have h4 := e_D_places ok (p ++ [t]) (t ++ l) (by rw [List.length_append]; omega) row
  have h5 := cut_from (cutsP r (t ++ l)) (cutsP r t).length
  rw [cuts_drop] at h5
  have h6 : lenF (lD (cutsP r t)) = some (.int ((cutsP r t).length : Nat)) := by simp [lenF, lD]
  have h7 : D.items (rwsD (p ++ [t])) = some (wD (p ++ [t])) := rfl
  have h9 : ¬ (400 : Int) < (t.length : Int) + (l.length : Int) := by omega
  have h12 : D.tup (wD (p ++ [t]) ++ [D.tup (t.map D.int ++ l.map D.int)]) = rwsD (p ++ [t] ++ [t ++ l]) := by
    unfold rwsD wD iD
    simp
  have h10 : (t.map D.int ++ l.map D.int).length ≤ 1000000 := by
    rw [List.length_append, List.length_map, List.length_map]
    omega
  have h11 : (wD (p ++ [t]) ++ [D.tup (t.map D.int ++ l.map D.int)]).length ≤ 1000000 := by
    unfold wD
    rw [List.length_append, List.length_map, List.length_append]
    simp
    omega
  have k1 := fun e : Mi.Env => small_ok h10 e
  have k2 := fun e : Mi.Env => small_ok h11 e
  have i1 : D.items (iD t) = some (t.map D.int) := rfl
  have i2 : D.items (iD l) = some (l.map D.int) := rfl
  have l1 := len_iD t
  have l2 := len_iD l
  clear h10 h11
  generalize wD (p ++ [t]) = w at *
  generalize rwsD (p ++ [t] ++ [t ++ l]) = y2 at *
  generalize rwsD (p ++ [t]) = y at *
  generalize iD (t ++ l) = itl at *
  generalize iD t = it at *
  generalize iD l = il at *
  generalize t.map D.int = tm at *
  generalize l.map D.int = lm at *
  generalize lD (cutsF r t l) = z at *
  generalize lD (cutsP r (t ++ l)) = z2 at *
  generalize lD (cutsP r t) = z3 at *
  generalize ((cutsP r t).length : Int) = n at *
  generalize (t.length : Int) = tn at *
  generalize (l.length : Int) = ln at *
  generalize r.d = rd at *
  simp [F_D_tell, dn_app2, m_D_tell, h1, h2, h3, h4, h5, h6, h7, h9, h12, k1, k2, i1, i2, l1, l2]
theorem e_tell_long {r : PR} {p : List (List Int)} {t l : List Int} (hs : signsOk r l = true) (hl : l.length ≤ 400) (h : 400 < t.length + l.length) (row : RowS) :
    F_D_tell r.d (rwsD (p ++ [t])) [iD l] row = .exc ⟨"BadText", []⟩ r.d (rwsD (p ++ [t])) row := by
  have h1 := e_check_text hs hl row
  have h2 := ix_last p t
  have h9 : (400 : Int) < (t.length : Int) + (l.length : Int) := by omega
  have l1 := len_iD t
  have l2 := len_iD l
  generalize rwsD (p ++ [t]) = y at *
  generalize iD t = it at *
  generalize iD l = il at *
  generalize (t.length : Int) = tn at *
  generalize (l.length : Int) = ln at *
  generalize r.d = rd at *
  simp [F_D_tell, dn_app2, m_D_tell, h1, h2, h9, l1, l2]
/-! a telling, its error caught -/
/-- what is due of a telling -/
def dueD (r : PR) (t l : List Int) : D := if t.length + l.length ≤ 400 then lD (cutsF r t l) else .str "text"
def nowP (ts : List (List Int)) (t l : List Int) : List (List Int) := if t.length + l.length ≤ 400 then ts ++ [t ++ l] else ts
theorem e_wrong {r : PR} (ok : r.Ok) (p : List (List Int)) (t l : List Int) (hp : p.length ≤ 1000) (hs : signsOk r l = true) (hl : l.length ≤ 400) (row : RowS) :
    F__law_wrong r.d (rwsD (p ++ [t])) [iD l] row = .ret (dueD r t l) r.d (rwsD (nowP (p ++ [t]) t l)) row := by
  by_cases c : t.length + l.length ≤ 400
  · have h := e_tell ok p t l hp hs c row
    unfold dueD nowP
    rw [if_pos c, if_pos c]
    generalize rwsD (p ++ [t] ++ [t ++ l]) = y2 at *
    generalize rwsD (p ++ [t]) = y at *
    generalize lD (cutsF r t l) = z at *
    generalize iD l = il at *
    generalize r.d = rd at *
    simp [F__law_wrong, dn_app2, m__law_wrong, h]
  · have h := e_tell_long (p := p) (t := t) hs hl (by omega) row
    unfold dueD nowP
    rw [if_neg c, if_neg c]
    generalize rwsD (p ++ [t]) = y at *
    generalize iD l = il at *
    generalize r.d = rd at *
    have hc : ∀ e, tryH errs ⟨"BadText", []⟩ e [("BadText", 3, asgM 2 (pureM (.str "text")))] = hdM 3 (asgM 2 (pureM (.str "text"))) e := fun e => try_hit (by decide) (by decide)
    simp [F__law_wrong, dn_app2, m__law_wrong, h, hc, hdM]
theorem e_wrong_odd {r : PR} {d : D} (R : D) (row : RowS) (h : F_is_text [r.d, d] row = .ret (.bl false) row) : F__law_wrong r.d R [d] row = .ret (.str "text") r.d R row := by
  have h := e_tell_odd R row h
  generalize r.d = rd at *
  have hc : ∀ e, tryH errs ⟨"BadText", []⟩ e [("BadText", 3, asgM 2 (pureM (.str "text")))] = hdM 3 (asgM 2 (pureM (.str "text"))) e := fun e => try_hit (by decide) (by decide)
  simp [F__law_wrong, dn_app2, m__law_wrong, h, hc, hdM]
end Cut

set_option Elab.async false
set_option linter.all false
set_option maxRecDepth 100000
set_option maxHeartbeats 1000000
namespace Cut
open PySem Mi
open L2 (atI ixN atI_nat)
/-! P13e: == of rules; what a desk stands for; undo; a copy -/
@[simp ↓] theorem eqOM_app (ma mb : M Ref) (g : FnM) (neg : Bool) (e : Mi.Env) : eqOM ma mb g neg e = (ma e).bind fun x => bindM mb fun y => bindM (derefM x) fun d => bindM (derefM y) fun d' => match d with
  | .obj l => (match d' with
    | .obj l' => callG g [.obj l, .obj l'] neg
    | .tup l' => if neg = true then errM else callG g [.obj l, .tup l'] neg
    | _ => errM)
  | _ => liftO (eqDF neg d d') := rfl
theorem callN_ok {g : FnM} {ds : List D} {d : D} {sl : List Mi.Slot} {row : RowS} (h : g ds row = .ret d row) : callN g ds ⟨sl, row⟩ = .ok d ⟨sl, row⟩ := by
  unfold callN
  rw [h]
theorem callG_ok {g : FnM} {ds : List D} {b neg : Bool} {sl : List Mi.Slot} {row : RowS} (h : g ds row = .ret (.bl b) row) : callG g ds neg ⟨sl, row⟩ = .ok (.bl (b != neg)) ⟨sl, row⟩ := by
  unfold callG bindM
  rw [callN_ok h]
  rfl
theorem parts_ok (a b c d e : D) (row : RowS) : F_parts_of [.obj [a, b, c, d, e]] row = .ret (.tup [a, b, c, d, e]) row := by simp [F_parts_of, fnM_app, m_parts_of]
theorem eq_obj {a b c d e a' b' c' d' e' : D} (h : (D.tup [a, b, c, d, e]).plain 60 = true) (h' : (D.tup [a', b', c', d', e']).plain 60 = true) (row : RowS) : F_eq [.obj [a, b, c, d, e], .obj [a', b', c', d', e']] row = .ret (.bl ((D.tup [a, b, c, d, e]).eqv (.tup [a', b', c', d', e']))) row := by
  have hr : isRuleF (.obj [a', b', c', d', e']) = some (.bl true) := rfl
  have h1 := parts_ok a b c d e row
  have h2 := parts_ok a' b' c' d' e' row
  have h3 : eqF (.tup [a, b, c, d, e]) (.tup [a', b', c', d', e']) = some (.bl ((D.tup [a, b, c, d, e]).eqv (.tup [a', b', c', d', e']))) := by
    unfold eqF
    rw [h, h']
    rfl
  generalize D.tup [a, b, c, d, e] = t1 at *
  generalize D.tup [a', b', c', d', e'] = t2 at *
  generalize D.obj [a, b, c, d, e] = o1 at *
  generalize D.obj [a', b', c', d', e'] = o2 at *
  simp [F_eq, fnM_app, m_eq, hr, h1, h2, h3]
theorem plain_t (r : PR) : r.t.plain 60 = true := by
  have hw := plains_wD 57 r.rows
  have hh : (hD r.high).plain 59 = true := by cases r.high <;> rfl
  show ((D.int r.many).plain 59 && ((D.int r.wide).plain 59 && ((D.tup (wD r.rows)).plain 59 && ((D.int r.low).plain 59 && ((hD r.high).plain 59 && D.plains 59 []))))) = true
  rw [hh]
  have e : (D.tup (wD r.rows)).plain 59 = D.plains 58 (wD r.rows) := rfl
  rw [e, hw]
  rfl
theorem eqv_t (r : PR) : r.t.eqv r.t = true := by
  have h : (D.tup (wD r.rows)).eqv (.tup (wD r.rows)) = true := by
    show D.eqvs _ _ = true
    rw [eqvs_w]
    simp
  have h2 : (hD r.high).eqv (hD r.high) = true := by
    cases r.high with
    | none => rfl
    | some x =>
      show (x == x) = true
      simp
  have h3 : ∀ x : Int, (D.int x).eqv (.int x) = true := fun x => by
    show (x == x) = true
    simp
  show ((D.int r.many).eqv (.int r.many) && ((D.int r.wide).eqv (.int r.wide) && ((D.tup (wD r.rows)).eqv (.tup (wD r.rows)) && ((D.int r.low).eqv (.int r.low) && ((hD r.high).eqv (hD r.high) && D.eqvs [] []))))) = true
  rw [h, h2, h3, h3, h3]
  rfl
theorem eq_rule (r : PR) (row : RowS) : F_eq [r.d, r.d] row = .ret (.bl true) row := by
  have h := eq_obj (plain_t r) (plain_t r) row
  have e := eqv_t r
  have e' : (D.tup [D.int r.many, D.int r.wide, D.tup (wD r.rows), D.int r.low, hD r.high]).eqv (D.tup [D.int r.many, D.int r.wide, D.tup (wD r.rows), D.int r.low, hD r.high]) = true := e
  rw [e'] at h
  exact h
/-! what a desk stands for -/
theorem e_D_len2 (o : D) (p : List (List Int)) (t : List Int) (row : RowS) : F_D___len__ o (rwsD (p ++ [t])) [] row = .ret (.int p.length) o (rwsD (p ++ [t])) row := by
  cases p with
  | nil => exact e_D_len o t [] row
  | cons a p =>
    have := e_D_len o a (p ++ [t]) row
    rw [List.length_append] at this
    simpa using this
theorem ix_lastL (p : List (List Int)) (t : List Int) : ixF (.lst (wD (p ++ [t]))) (.int (-1)) = some (iD t) := ix_last p t
theorem ldR_ok {i : Nat} {g : DnM} {n : Nat} {l : Bool} {o r : D} {sl : List Mi.Slot} {row : RowS} (h0 : sl[i]? = some (.dsk l o r)) (hn : n < 1000000) (h : g o r [] row = .ret (.int n) o r row) : lenDM i g ⟨sl, row⟩ = .ok (.int n) ⟨sl.set i (.dsk l o r), row⟩ := by
  unfold lenDM bindM
  rw [propD_app]
  simp only [h0, pdR_ok h]
  have : (0 : Int) ≤ n ∧ (n : Int) < 1000000 := ⟨by omega, by omega⟩
  rw [if_pos this]
  rfl
noncomputable section
def Dsq1 : M Fl := (iteM (orT (testM (op2M (mapM' (propD 0 F_D_text) Ref.val) (mapM' (op2M (refM 2) (mapM' (negM (pureM (.int 1))) Ref.val) ixF) Ref.val) neF)) (orT (testM (eqOM (mapM' (propD 0 F_D_rule) Ref.val) (mapM' (callM F__law_made (consM (readM 1) (pureM []))) Ref.val) F_eq true)) (testM (op2M (mapM' (lenDM 0 F_D___len__) Ref.val) (mapM' (op2M (mapM' (op1M (refM 2) lenF) Ref.val) (mapM' (pureM (.int 1)) Ref.val) subF) Ref.val) neF))))
      (retM (pureM (.bl false)))
      (nxM))
def Dsq2 : M Fl := (asgM 3 (callM F__law_cuts (consM (readM 1) (consM (op2M (refM 2) (mapM' (negM (pureM (.int 1))) Ref.val) ixF) (pureM [])))))
def Dsq3 : M Fl := (retM (andV (op2M (mapM' (callD 0 F_D_places (pureM [])) Ref.val) (refM 3) eqF) (op2M (mapM' (callD 0 F_D_waits (pureM [])) Ref.val) (mapM' (sliceM (mapM' (op2M (refM 2) (mapM' (negM (pureM (.int 1))) Ref.val) ixF) Ref.val) (partM (op2M (mapM' (op2M (mapM' (giveM (lstM (consM (pureM (.int 0)) (pureM [])))) Ref.val) (refM 3) addF) Ref.val) (mapM' (negM (pureM (.int 1))) Ref.val) ixF)) (pureM none)) Ref.val) eqF)))
theorem Dsq_eq : m__law_stands = seqM Dsq1 (seqM Dsq2 Dsq3) := rfl
end
theorem ite_or3 {a b c : M Bool} {m n : M Fl} {e : Mi.Env} (x1 : a e = .ok false e) (x2 : b e = .ok false e) (x3 : c e = .ok false e) : iteM (orT a (orT b c)) m n e = n e := by
  rw [iteM_app, orT_app, x1, Res.bind_ok, iteR_false, orT_app, x2, Res.bind_ok, iteR_false, x3]
  rfl
theorem add_zero_ls (l : List Int) (h : l.length ≤ 900000) : addF (.lst [.int 0]) (lD l) = some (.lst (.int 0 :: l.map D.int)) := by
  unfold addF lD
  have : [D.int 0].length + (l.map D.int).length ≤ 1000000 := by
    rw [List.length_map]
    simp
    omega
  simp only [this, if_true]
  rfl
theorem cuts_len (r : PR) (t : List Int) : (cutsP r t).length ≤ t.length := runP_length r t begin0 0
theorem e_stands {r : PR} (ok : r.Ok) (p : List (List Int)) (t : List Int) (hp : p.length ≤ 1000) (hl : t.length ≤ 900) (row : RowS) :
    F__law_stands r.d (rwsD (p ++ [t])) [r.t, .lst (wD (p ++ [t]))] row = .ret (.bl true) r.d (rwsD (p ++ [t])) row := by
  have a1 := e_D_text r.d p t row
  have a2 := ix_lastL p t
  have a3 := e_D_rule r.d (rwsD (p ++ [t])) row
  have a4 := e_made ok row
  have a5 := e_D_len2 r.d p t row
  have a6 : lenF (.lst (wD (p ++ [t]))) = some (.int ((p.length : Int) + 1)) := by simp [wD]
  have a7 := e_law_cuts ok t (by omega) row
  have a8 := e_D_places ok p t (by omega) row
  have a9 := e_D_waits ok p t (by omega) row
  have b1 := add_zero_ls (cutsP r t) (Nat.le_trans (cuts_len r t) (by omega))
  have b2 : ixF (.lst (.int 0 :: (cutsP r t).map D.int)) (.int (-1)) = some (.int (((0 : Int) :: cutsP r t).getLast (by simp))) := at_last0 (cutsP r t)
  have b3 : cutF (iD t) (some (((0 : Int) :: cutsP r t).getLast (by simp))) none = some (iD (waitP r t)) := cut_iD _ _ _
  have b4 : neF (iD t) (iD t) = some (.bl false) := by simp
  have b5 : eqF (lD (cutsP r t)) (lD (cutsP r t)) = some (.bl true) := by simp
  have b6 : eqF (iD (waitP r t)) (iD (waitP r t)) = some (.bl true) := by simp
  have b7 := eq_rule r row
  have hds : r.d = .obj r.ds := rfl
  rw [hds] at a1 a3 a4 a5 a8 a9 b7 ⊢
  have g1 := fun (l : Bool) (sl : List Mi.Slot) => pdR_ok (i := 0) (l := l) (sl := sl) a1
  have g3 := fun (l : Bool) (sl : List Mi.Slot) => pdR_ok (i := 0) (l := l) (sl := sl) a3
  have g5 := fun (l : Bool) (sl : List Mi.Slot) => ldR_ok (i := 0) (l := l) (sl := .dsk l (.obj r.ds) (rwsD (p ++ [t])) :: sl) rfl (by omega) a5
  have g7 := fun (sl : List Mi.Slot) => callG_ok (neg := true) (sl := sl) b7
  generalize ((0 : Int) :: cutsP r t).getLast (by simp) = z at *
  generalize D.int 0 :: (cutsP r t).map D.int = zs at *
  generalize lD (cutsP r t) = cs at *
  generalize iD (waitP r t) = wt at *
  generalize iD t = it at *
  generalize rwsD (p ++ [t]) = y at *
  generalize wD (p ++ [t]) = w at *
  generalize (p.length : Int) = n at *
  generalize r.ds = ds at *
  generalize r.t = rt at *
  clear hds a1 a3 a5 b7
  have k1 : Dsq1 ⟨[.dsk true (.obj ds) y, .val rt, .val (.lst w), .no], row⟩ = .ok .nx ⟨[.dsk true (.obj ds) y, .val rt, .val (.lst w), .no], row⟩ := by
    clear a7 a8 a9 b1 b2 b3 b5 b6
    have x1 : testM (op2M (mapM' (propD 0 F_D_text) Ref.val) (mapM' (op2M (refM 2) (mapM' (negM (pureM (.int 1))) Ref.val) ixF) Ref.val) neF) ⟨[.dsk true (.obj ds) y, .val rt, .val (.lst w), .no], row⟩ = .ok false ⟨[.dsk true (.obj ds) y, .val rt, .val (.lst w), .no], row⟩ := by
      simp [a2, b4, g1]
    have x2 : testM (eqOM (mapM' (propD 0 F_D_rule) Ref.val) (mapM' (callM F__law_made (consM (readM 1) (pureM []))) Ref.val) F_eq true) ⟨[.dsk true (.obj ds) y, .val rt, .val (.lst w), .no], row⟩ = .ok false ⟨[.dsk true (.obj ds) y, .val rt, .val (.lst w), .no], row⟩ := by
      simp [a4, g3, g7]
    have x3 : testM (op2M (mapM' (lenDM 0 F_D___len__) Ref.val) (mapM' (op2M (mapM' (op1M (refM 2) lenF) Ref.val) (mapM' (pureM (.int 1)) Ref.val) subF) Ref.val) neF) ⟨[.dsk true (.obj ds) y, .val rt, .val (.lst w), .no], row⟩ = .ok false ⟨[.dsk true (.obj ds) y, .val rt, .val (.lst w), .no], row⟩ := by
      simp [a6, g5]
    exact ite_or3 x1 x2 x3
  have k2 : Dsq2 ⟨[.dsk true (.obj ds) y, .val rt, .val (.lst w), .no], row⟩ = .ok .nx ⟨[.dsk true (.obj ds) y, .val rt, .val (.lst w), .val cs], row⟩ := by
    clear a4 a6 a8 a9 b1 b2 b3 b4 b5 b6 g1 g3 g5 g7
    simp [Dsq2, a2, a7]
  have k3 : Dsq3 ⟨[.dsk true (.obj ds) y, .val rt, .val (.lst w), .val cs], row⟩ = .ok (.rt (.bl true)) ⟨[.dsk true (.obj ds) y, .val rt, .val (.lst w), .val cs], row⟩ := by
    clear a4 a6 a7 b4 g1 g3 g5 g7
    simp [Dsq3, a2, a8, a9, b1, b2, b3, b5, b6]
  show dnM 1 m__law_stands _ _ _ _ = _
  rw [dn_app2, Dsq_eq]
  show dnR (seqM Dsq1 (seqM Dsq2 Dsq3) ⟨[.dsk true (.obj ds) y, .val rt, .val (.lst w), .no], row⟩) = _
  rw [seqM_app, k1, Res.bind_ok, seqR_nx, seqM_app, k2, Res.bind_ok, seqR_nx, k3]
  rfl
end Cut

set_option Elab.async false
set_option linter.all false
set_option maxRecDepth 100000
set_option maxHeartbeats 1000000
namespace Cut
open PySem Mi
open L2 (atI ixN atI_nat)
/-! P13f: a copy -/
def cpR (s : Option Mi.Slot) (e : Mi.Env) : Res (D × D) := match s with
  | some (.dsk _ o r) => .ok (o, r) e
  | _ => .err
@[simp] theorem cpR_dsk (l : Bool) (o r : D) (e : Mi.Env) : cpR (some (.dsk l o r)) e = .ok (o, r) e := rfl
@[simp ↓] theorem cpyD_app (i : Nat) (e : Mi.Env) : cpyD i e = cpR e.sl[i]? e := rfl
@[simp ↓] theorem asgD_app (i : Nat) (m : M (D × D)) (e : Mi.Env) : asgD i m e = (m e).bind fun p => bindM (setM i (.dsk false p.1 p.2)) fun _ => pureM .nx := rfl
theorem add_ii2 (t l : List Int) (h : t.length + l.length ≤ 1000000) : addF (iD t) (iD l) = some (iD (t ++ l)) := by
  unfold iD addF
  simp [h]
theorem cut_to (w : List D) (x : D) : cutF (.lst (w ++ [x])) none (some (w.length : Int)) = some (.lst w) := by
  show some (D.lst (cutD (w ++ [x]) none (some (w.length : Int)))) = _
  unfold cutD
  have h1 : HT.sIx (w ++ [x]).length 0 none = 0 := rfl
  rw [h1, HT.sIx_nat, List.length_append, Nat.min_eq_left (by omega)]
  simp
theorem wD_snoc (p : List (List Int)) (t : List Int) : wD (p ++ [t]) = wD p ++ [iD t] := List.map_append
theorem wD_len (p : List (List Int)) : (wD p).length = p.length := List.length_map _
theorem cut_toW (p : List (List Int)) (t : List Int) : cutF (.lst (wD (p ++ [t]))) none (some (p.length : Int)) = some (.lst (wD p)) := by
  have := cut_to (wD p) (iD t)
  rw [wD_snoc]
  rwa [wD_len] at this
theorem ne_bb (b : Bool) : neF (.bl b) (.bl b) = some (.bl false) := by cases b <;> rfl
theorem ne_st : neF (.str "text") (.str "text") = some (.bl false) := by decide +kernel
theorem eq_st : eqF (.str "text") (.str "text") = some (.bl true) := by decide +kernel
theorem ne_ls (l : List Int) : neF (lD l) (.str "text") = some (.bl true) := by
  have h : (D.lst (l.map D.int)).plain 60 = true := plains_ints 59 l
  have h2 : (D.str "text").plain 60 = true := by decide +kernel
  unfold neF lD
  rw [h, h2]
  rfl
theorem e_of_copy {r : PR} (ok : r.Ok) (p : List (List Int)) (t l : List Int) (hp : p.length ≤ 900) (hs : signsOk r l = true) (hl : l.length ≤ 400) (ht : t.length ≤ 400) (hq : ∀ x ∈ p, x.length ≤ 400) (row : RowS) :
    F__law_of_copy r.d (rwsD (p ++ [t])) [r.t, .lst (wD (p ++ [t])), iD l, dueD r t l] row = .ret (.bl true) r.d (rwsD (p ++ [t])) row := by
  have S1 := e_stands ok p t (by omega) (by omega) row
  have W := e_wrong ok p t l (by omega) hs hl row
  have a2 := ix_lastL p t
  have a3 := add_ii2 t l (by omega)
  by_cases c : t.length + l.length ≤ 400
  · unfold dueD nowP at *
    simp only [if_pos c] at *
    have S2 := e_stands ok (p ++ [t]) (t ++ l) (by rw [List.length_append]; simp; omega) (by rw [List.length_append]; omega) row
    have U := e_D_undo r.d p t (t ++ l) row
    have n0 : neF (lD (cutsF r t l)) (lD (cutsF r t l)) = some (.bl false) := by simp
    have n1 := ne_ls (cutsF r t l)
    have n2 : addF (.lst (wD (p ++ [t]))) (.lst [iD (t ++ l)]) = some (.lst (wD (p ++ [t] ++ [t ++ l]))) := add_ww (p ++ [t]) [t ++ l] (by rw [List.length_append]; simp; omega)
    have n3 : lenF (.lst (wD (p ++ [t] ++ [t ++ l]))) = some (.int ((p.length : Int) + 2)) := by
      show some (D.int ((wD (p ++ [t] ++ [t ++ l])).length : Int)) = _
      rw [wD_len, List.length_append, List.length_append]
      rfl
    have n4 : (1 : Int) < (p.length : Int) + 2 := by omega
    have n5 : max 1 ((p.length : Int) + 2 - 1) = ((p ++ [t]).length : Int) := by
      rw [List.length_append]
      simp
      omega
    have n6 := cut_toW (p ++ [t]) (t ++ l)
    have n7 := ne_bb true
    generalize ((p ++ [t]).length : Int) = m at *
    generalize lD (cutsF r t l) = cs at *
    generalize wD (p ++ [t] ++ [t ++ l]) = w2 at *
    generalize wD (p ++ [t]) = w at *
    generalize rwsD (p ++ [t] ++ [t ++ l]) = y2 at *
    generalize rwsD (p ++ [t]) = y at *
    generalize iD (t ++ l) = itl at *
    generalize iD t = it at *
    generalize iD l = il at *
    generalize (p.length : Int) = n at *
    generalize r.d = rd at *
    generalize r.t = rt at *
    simp [F__law_of_copy, dn_app2, m__law_of_copy, S1, W, a2, a3, S2, U, n0, n1, n2, n3, n4, n5, n6, n7]
  · unfold dueD nowP at *
    simp only [if_neg c] at *
    have n0 := ne_st
    rcases List.eq_nil_or_concat p with rfl | ⟨q, s, e⟩
    · have U := e_D_undo0 r.d t row
      have n3 : lenF (.lst (wD ([] ++ [t]))) = some (.int 1) := rfl
      have n6 : cutF (.lst (wD ([] ++ [t]))) none (some 1) = some (.lst (wD ([] ++ [t]))) := rfl
      have n5 : max (1 : Int) 0 = 1 := by decide
      have n7 := ne_bb false
      have e0 : rwsD [t] = rwsD ([] ++ [t]) := rfl
      rw [e0] at U
      generalize wD ([] ++ [t]) = w at *
      generalize rwsD ([] ++ [t]) = y at *
      generalize iD t = it at *
      generalize iD l = il at *
      generalize r.d = rd at *
      generalize r.t = rt at *
      simp [F__law_of_copy, dn_app2, m__law_of_copy, S1, W, a2, a3, U, n0, n3, n5, n6, n7]
    · have e : p = q ++ [s] := by simpa using e
      subst e
      have hs' := hq s (by simp)
      have hq2 : q.length + 1 ≤ 900 := by
        have := hp
        rw [List.length_append] at this
        exact this
      have S2 := e_stands ok q s (by omega) (by omega) row
      have U := e_D_undo r.d q s t row
      have n3 : lenF (.lst (wD (q ++ [s] ++ [t]))) = some (.int ((q.length : Int) + 2)) := by
        show some (D.int ((wD (q ++ [s] ++ [t])).length : Int)) = _
        rw [wD_len, List.length_append, List.length_append]
        rfl
      have n4 : (1 : Int) < (q.length : Int) + 2 := by omega
      have n5 : max 1 ((q.length : Int) + 2 - 1) = ((q ++ [s]).length : Int) := by
        rw [List.length_append]
        simp
        omega
      have n6 := cut_toW (q ++ [s]) t
      have n7 := ne_bb true
      generalize ((q ++ [s]).length : Int) = m at *
      generalize wD (q ++ [s] ++ [t]) = w2 at *
      generalize wD (q ++ [s]) = w at *
      generalize rwsD (q ++ [s] ++ [t]) = y2 at *
      generalize rwsD (q ++ [s]) = y at *
      generalize iD t = it at *
      generalize iD l = il at *
      generalize (q.length : Int) = n at *
      generalize r.d = rd at *
      generalize r.t = rt at *
      simp [F__law_of_copy, dn_app2, m__law_of_copy, S1, W, a2, a3, S2, U, n0, n3, n4, n5, n6, n7]
end Cut

set_option Elab.async false
set_option linter.all false
set_option maxRecDepth 100000
set_option maxHeartbeats 1000000
namespace Cut
open PySem Mi
open L2 (atI ixN atI_nat)
/-! P13g: a turn -/
noncomputable section
def Dqq1 : M Fl := (parM [10, 11] (consV (callM F__law_pick (consM (readM 1) (consM (pureM (.int 6)) (pureM [])))) (consV (callM F__law_text (consM (readM 1) (consM (readM 2) (consM (op2M (mapM' (giveM (lstM (consM (pureM (.int 5)) (consM (pureM (.int 5)) (consM (pureM (.int 150)) (pureM [])))))) Ref.val) (mapM' (callM F__law_pick (consM (readM 1) (consM (pureM (.int 3)) (pureM [])))) Ref.val) ixF) (pureM []))))) (pureM []))))
def Dqq2 : M Fl := (asgM 8 (op2M (mapM' (op2M (refM 7) (mapM' (negM (pureM (.int 1))) Ref.val) ixF) Ref.val) (refM 11) addF))
def Dqq3 : M Fl := (asgM 5 (pureM (.str "text")))
def Dqq4 : M Fl := (iteM (testM (op2M (mapM' (op1M (refM 8) lenF) Ref.val) (mapM' (pureM (.int 400)) Ref.val) (ordF .le)))
      (asgO 5 (lcM (walkM (callM F__law_cuts (consM (readM 2) (consM (readM 8) (pureM []))))) (gN 12) (u_law_1) (c_law_1) [12]))
      (nxM))
def Dqq5 : M Fl := (iteM (testM (op2M (refM 10) (mapM' (pureM (.int 0)) Ref.val) eqF))
      (seqM (iteM (testM (op2M (mapM' (callD 6 F_D_undo (pureM [])) Ref.val) (mapM' (op2M (mapM' (op1M (refM 7) lenF) Ref.val) (mapM' (pureM (.int 1)) Ref.val) (ordF .gt)) Ref.val) neF))
      (retM (pureM (.bl false)))
      (nxM))
      (asgM 7 (iteM (testM (op2M (mapM' (op1M (refM 7) lenF) Ref.val) (mapM' (pureM (.int 1)) Ref.val) (ordF .gt))) (sliceM (refM 7) (pureM none) (partM (negM (pureM (.int 1))))) (readM 7))))
      (iteM (testM (op2M (refM 10) (mapM' (pureM (.int 1)) Ref.val) eqF))
      (iteM (notT (testM (callD 6 F__law_of_copy (consM (readM 2) (consM (readM 7) (consM (readM 11) (consM (readM 5) (pureM []))))))))
      (retM (pureM (.bl false)))
      (nxM))
      (seqM (asgD 13 (cpyD 6))
      (seqM (iteM (orT (testM (op2M (mapM' (callD 6 F__law_wrong (consM (readM 11) (pureM []))) Ref.val) (refM 5) neF)) (notT (testM (callD 13 F__law_stands (consM (readM 2) (consM (readM 7) (pureM [])))))))
      (retM (pureM (.bl false)))
      (nxM))
      (asgM 7 (iteM (testM (op2M (refM 5) (mapM' (pureM (.str "text")) Ref.val) neF)) (op2M (refM 7) (mapM' (giveM (lstM (consM (readM 8) (pureM [])))) Ref.val) addF) (readM 7)))))))
def Dqq6 : M Fl := (iteM (testM (op2M (mapM' (callD 6 F__law_wrong (consM (callM F__law_odd_text (consM (readM 1) (consM (readM 2) (pureM [])))) (pureM []))) Ref.val) (mapM' (pureM (.str "text")) Ref.val) neF))
      (retM (pureM (.bl false)))
      (nxM))
def Dqq7 : M Fl := (asgM 9 (callM F__law_cuts (consM (readM 2) (consM (op2M (refM 7) (mapM' (negM (pureM (.int 1))) Ref.val) ixF) (pureM [])))))
def Dqq8 : M Fl := (iteM (orT (testM (op2M (mapM' (callD 6 F_D_places (pureM [])) Ref.val) (refM 9) neF)) (testM (op2M (mapM' (callD 6 F_D_waits (pureM [])) Ref.val) (mapM' (sliceM (mapM' (op2M (refM 7) (mapM' (negM (pureM (.int 1))) Ref.val) ixF) Ref.val) (partM (op2M (mapM' (op2M (mapM' (giveM (lstM (consM (pureM (.int 0)) (pureM [])))) Ref.val) (refM 9) addF) Ref.val) (mapM' (negM (pureM (.int 1))) Ref.val) ixF)) (pureM none)) Ref.val) neF)))
      (retM (pureM (.bl false)))
      (nxM))
def Dqq9 : M Fl := (iteM (orT (testM (op2M (mapM' (propD 6 F_D_text) Ref.val) (mapM' (op2M (refM 7) (mapM' (negM (pureM (.int 1))) Ref.val) ixF) Ref.val) neF)) (orT (testM (eqOM (mapM' (propD 6 F_D_rule) Ref.val) (mapM' (callM F__law_made (consM (readM 2) (pureM []))) Ref.val) F_eq true)) (testM (op2M (mapM' (lenDM 6 F_D___len__) Ref.val) (mapM' (op2M (mapM' (op1M (refM 7) lenF) Ref.val) (mapM' (pureM (.int 1)) Ref.val) subF) Ref.val) neF))))
      (retM (pureM (.bl false)))
      (nxM))
theorem Dqq_eq : b_law_1 = seqM Dqq1 (seqM Dqq2 (seqM Dqq3 (seqM Dqq4 (seqM Dqq5 (seqM Dqq6 (seqM Dqq7 (seqM Dqq8 Dqq9))))))) := rfl

abbrev V13 (s3 s4 s5 : Mi.Slot) (r : PR) (ts : List (List Int)) (s8 s9 s10 s11 s13 : Mi.Slot) (row : RowS) : Mi.Env := ⟨[.no, .val .row, .val r.t, s3, s4, s5, .dsk false r.d (rwsD ts), .val (.lst (wD ts)), s8, s9, s10, s11, .no, s13], row⟩
structure TsOk (r : PR) (ts : List (List Int)) : Prop where
  ne : ts ≠ []
  al : ∀ t ∈ ts, signsOk r t = true ∧ t.length ≤ 400
theorem TsOk.split {r : PR} {ts : List (List Int)} (T : TsOk r ts) : ∃ p t, ts = p ++ [t] ∧ signsOk r t = true ∧ t.length ≤ 400 ∧ ∀ x ∈ p, x.length ≤ 400 := by
  rcases List.eq_nil_or_concat ts with e | ⟨p, t, e⟩
  · exact absurd e T.ne
  · have e : ts = p ++ [t] := by simpa using e
    subst e
    exact ⟨p, t, rfl, (T.al t (by simp)).1, (T.al t (by simp)).2, fun x hx => (T.al x (by simp [hx])).2⟩
theorem signs_app {r : PR} {a b : List Int} (h : signsOk r a = true) (h' : signsOk r b = true) : signsOk r (a ++ b) = true := by
  unfold signsOk at *
  rw [List.all_append, h, h']
  rfl
theorem TsOk.now {r : PR} {p : List (List Int)} {t l : List Int} (T : TsOk r (p ++ [t])) (hs : signsOk r l = true) : TsOk r (nowP (p ++ [t]) t l) := by
  unfold nowP
  by_cases c : t.length + l.length ≤ 400
  · rw [if_pos c]
    refine ⟨by simp, fun x hx => ?_⟩
    rcases List.mem_append.mp hx with hx | hx
    · exact T.al x hx
    · have := List.mem_singleton.mp hx
      subst this
      exact ⟨signs_app (T.al t (by simp)).1 hs, by rw [List.length_append]; exact c⟩
  · rw [if_neg c]
    exact T
theorem now_len (ts : List (List Int)) (t l : List Int) : (nowP ts t l).length ≤ ts.length + 1 := by
  unfold nowP
  split
  · simp
  · omega
/-- the slot of what is due -/
def dueS (r : PR) (t l : List Int) : Mi.Slot := if t.length + l.length ≤ 400 then .own (.lst ((cutsF r t l).map D.int)) else .val (.str "text")
theorem q13_1 {r : PR} (ok : r.Ok) {row : RowS} (h : RowIn row) (s3 s4 s5 : Mi.Slot) (ts : List (List Int)) (s8 s9 s10 s11 s13 : Mi.Slot) : ∃ (p : Int) (l : List Int) (row' : RowS), Dqq1 (V13 s3 s4 s5 r ts s8 s9 s10 s11 s13 row) = .ok .nx (V13 s3 s4 s5 r ts s8 s9 (.val (.int p)) (.val (iD l)) s13 row') ∧ RowIn row' ∧ signsOk r l = true ∧ l.length ≤ 400 := by
  obtain ⟨p, row1, e1, _, _, h1⟩ := e_pick h (m := 6) (by decide) (by decide)
  obtain ⟨q, row2, e2, q0, q1, h2⟩ := e_pick h1 (m := 3) (by decide) (by decide)
  obtain ⟨m, hm, m0, m1⟩ : ∃ m : Int, atI [D.int 5, .int 5, .int 150] q = some (.int m) ∧ 0 ≤ m ∧ m ≤ 150 := by
    have hq : q = 0 ∨ q = 1 ∨ q = 2 := by omega
    rcases hq with rfl | rfl | rfl
    · exact ⟨5, by simp, by decide, by decide⟩
    · exact ⟨5, by simp, by decide, by decide⟩
    · exact ⟨150, by simp, by decide, by decide⟩
  obtain ⟨l, row3, e3, h3, hs, hl⟩ := e_law_text h2 ok (most := m) m0 (by omega)
  refine ⟨p, l, row3, ?_, h3, hs, by omega⟩
  try unfold V13
  generalize rwsD ts = y at *
  generalize wD ts = w at *
  generalize iD l = il at *
  generalize r.d = rd at *
  generalize r.t = rt at *
  simp [Dqq1, e1, e2, hm, e3]
theorem due_lc {r : PR} (t l : List Int) (u : M Bool) (c : M D) (sl : List Mi.Slot) (row : RowS) (hi : 12 < sl.length) (hno : (((sl[12]?).getD Mi.Slot.no).isOwn) = false) (hl : t.length + l.length ≤ 1000)
    (hu : ∀ x : Int, u ⟨sl.set 12 (.val (.int x)), row⟩ = .ok (decide ((t.length : Int) < x)) ⟨sl.set 12 (.val (.int x)), row⟩) (hc : ∀ x : Int, c ⟨sl.set 12 (.val (.int x)), row⟩ = .ok (.int x) ⟨sl.set 12 (.val (.int x)), row⟩) :
    lcRun (gN 12) u c [12] ((cutsP r (t ++ l)).map D.int) ⟨sl, row⟩ = .ok (.lst ((cutsF r t l).map D.int)) ⟨sl, row⟩ := by
  have hb := runP_length r (t ++ l) begin0 0
  rw [List.length_append] at hb
  have := lc_filter (i := 12) (t := u) (el := c) (sl := sl) (fun d => d) (fun d => match d with
    | .int x => decide ((t.length : Int) < x)
    | _ => false) hi hno ((cutsP r (t ++ l)).map D.int) row (by
      rw [List.length_map]
      show (runP r begin0 0 (t ++ l)).length ≤ _
      omega) (fun d hd => by
      obtain ⟨x, hx, rfl⟩ := List.mem_map.mp hd
      exact hu x) (fun d hd _ => by
      obtain ⟨x, hx, rfl⟩ := List.mem_map.mp hd
      exact hc x)
  rw [this, List.map_id']
  congr 2
  unfold cutsF
  rw [filter_ints _ _ (fun x => decide ((t.length : Int) < x)) fun x _ => rfl]
theorem q13_2 {r : PR} (ok : r.Ok) (row : RowS) (s3 s4 s5 : Mi.Slot) (p : List (List Int)) (t l : List Int) (ht : t.length ≤ 400) (hl : l.length ≤ 400) (s8 s9 s10 s13 : Mi.Slot) :
    seqM Dqq2 (seqM Dqq3 Dqq4) (V13 s3 s4 s5 r (p ++ [t]) s8 s9 s10 (.val (iD l)) s13 row) = .ok .nx (V13 s3 s4 (dueS r t l) r (p ++ [t]) (.val (iD (t ++ l))) s9 s10 (.val (iD l)) s13 row) := by
  have a2 := ix_lastL p t
  have a3 := add_ii2 t l (by omega)
  have a4 : lenF (iD (t ++ l)) = some (.int ((t.length : Int) + l.length)) := by simp
  have a5 := len_iD t
  by_cases c : t.length + l.length ≤ 400
  · have a6 := e_law_cuts ok (t ++ l) (by rw [List.length_append]; omega) row
    have a7 : itemsD (lD (cutsP r (t ++ l))) = some ((cutsP r (t ++ l)).map D.int) := rfl
    have c1 : (t.length : Int) + l.length ≤ 400 := by omega
    have hlc := due_lc (r := r) t l u_law_1 c_law_1 [Mi.Slot.no, .val .row, .val r.t, s3, s4, .val (.str "text"), .dsk false r.d (rwsD (p ++ [t])), .val (.lst (wD (p ++ [t]))), .val (iD (t ++ l)), s9, s10, .val (iD l), .no, s13] row (by simp) rfl (by omega) (fun x => by
      try unfold V13
      generalize wD (p ++ [t]) = w at *
      generalize iD t = it at *
      generalize iD (t ++ l) = itl at *
      generalize iD l = il at *
      simp [u_law_1, a2, a5]) (fun x => by simp [c_law_1])
    have e0 : dueS r t l = .own (.lst ((cutsF r t l).map D.int)) := if_pos c
    rw [e0]
    try unfold V13
    generalize (cutsF r t l).map D.int = cf at *
    generalize (cutsP r (t ++ l)).map D.int = cp at *
    generalize lD (cutsP r (t ++ l)) = lc at *
    generalize wD (p ++ [t]) = w at *
    generalize rwsD (p ++ [t]) = y at *
    generalize iD (t ++ l) = itl at *
    generalize iD t = it at *
    generalize iD l = il at *
    generalize (t.length : Int) = tn at *
    generalize (l.length : Int) = ln at *
    generalize r.d = rd at *
    generalize r.t = rt at *
    simp [Dqq2, Dqq3, Dqq4, a2, a3, a4, a6, a7, c1, hlc]
  · have c1 : ¬ ((t.length : Int) + l.length ≤ 400) := by omega
    have e0 : dueS r t l = .val (.str "text") := if_neg c
    rw [e0]
    try unfold V13
    generalize wD (p ++ [t]) = w at *
    generalize rwsD (p ++ [t]) = y at *
    generalize iD (t ++ l) = itl at *
    generalize iD t = it at *
    generalize iD l = il at *
    generalize (t.length : Int) = tn at *
    generalize (l.length : Int) = ln at *
    generalize r.d = rd at *
    generalize r.t = rt at *
    simp [Dqq2, Dqq3, Dqq4, a2, a3, a4, c1]
theorem dueS_rd (r : PR) (t l : List Int) (i : Nat) (sl : List Mi.Slot) (row : RowS) : rdS (some (dueS r t l)) i sl row = .ok (dueD r t l) ⟨if t.length + l.length ≤ 400 then sl.set i (.val (dueD r t l)) else sl, row⟩ := by
  unfold dueS dueD
  by_cases c : t.length + l.length ≤ 400
  · rw [if_pos c, if_pos c, if_pos c]
    rfl
  · rw [if_neg c, if_neg c, if_neg c]
    rfl
theorem dueS_rf (r : PR) (t l : List Int) (i : Nat) (e : Mi.Env) : rfS (some (dueS r t l)) i e = .ok (.slot i) e := by
  unfold dueS
  split <;> rfl
theorem dueS_pk (r : PR) (t l : List Int) (e : Mi.Env) : pkS (some (dueS r t l)) e = .ok (dueD r t l) e := by
  unfold dueS dueD
  split <;> rfl
theorem due_ne (r : PR) (t l : List Int) : neF (dueD r t l) (dueD r t l) = some (.bl false) := by
  unfold dueD
  split
  · simp
  · exact ne_st
theorem due_str (r : PR) (t l : List Int) : neF (dueD r t l) (.str "text") = some (.bl (decide (t.length + l.length ≤ 400))) := by
  unfold dueD
  by_cases c : t.length + l.length ≤ 400
  · rw [if_pos c, decide_eq_true c]
    exact ne_ls _
  · rw [if_neg c, decide_eq_false c]
    exact ne_st
end
end Cut

set_option Elab.async false
set_option linter.all false
set_option maxRecDepth 100000
set_option maxHeartbeats 1000000
namespace Cut
open PySem Mi
open L2 (atI ixN atI_nat)
/-! P13h: a turn, its second half -/
theorem cut_initL (p : List (List Int)) (t : List Int) : cutF (.lst (wD (p ++ [t]))) none (some (-1)) = some (.lst (wD p)) := by
  have e := cut_init p t
  have e' : some (D.tup (cutD (wD (p ++ [t])) none (some (-1)))) = some (D.tup (wD p)) := e
  simp only [Option.some.injEq, D.tup.injEq] at e'
  show some (D.lst (cutD (wD (p ++ [t])) none (some (-1)))) = _
  rw [e']
theorem q13_50 {r : PR} {p : List (List Int)} {t l : List Int} (T : TsOk r (p ++ [t])) (row : RowS) (s3 s4 s5 s8 s9 s11 s13 : Mi.Slot) : ∃ (ts' : List (List Int)), Dqq5 (V13 s3 s4 s5 r (p ++ [t]) s8 s9 (.val (.int 0)) s11 s13 row) = .ok .nx (V13 s3 s4 s5 r ts' s8 s9 (.val (.int 0)) s11 s13 row) ∧ TsOk r ts' ∧ ts'.length ≤ p.length + 1 := by
  rcases List.eq_nil_or_concat p with rfl | ⟨q, s, e⟩
  · have U := e_D_undo0 r.d t row
    have n3 : lenF (.lst (wD ([] ++ [t]))) = some (.int 1) := rfl
    have n7 := ne_bb false
    have e0 : rwsD [t] = rwsD ([] ++ [t]) := rfl
    rw [e0] at U
    refine ⟨[] ++ [t], ?_, T, Nat.le_refl _⟩
    clear T
    try unfold V13
    generalize wD ([] ++ [t]) = w at *
    generalize rwsD ([] ++ [t]) = y at *
    generalize r.d = rd at *
    generalize r.t = rt at *
    simp [Dqq5, U, n3, n7]
  · have e : p = q ++ [s] := by simpa using e
    subst e
    have U := e_D_undo r.d q s t row
    have n3 : lenF (.lst (wD (q ++ [s] ++ [t]))) = some (.int ((q.length : Int) + 2)) := by
      show some (D.int ((wD (q ++ [s] ++ [t])).length : Int)) = _
      rw [wD_len, List.length_append, List.length_append]
      rfl
    have n4 : (1 : Int) < (q.length : Int) + 2 := by omega
    have n6 := cut_initL (q ++ [s]) t
    have n7 := ne_bb true
    refine ⟨q ++ [s], ?_, ⟨by simp, fun x hx => T.al x (List.mem_append_left _ hx)⟩, by omega⟩
    clear T
    try unfold V13
    generalize wD (q ++ [s] ++ [t]) = w2 at *
    generalize wD (q ++ [s]) = w at *
    generalize rwsD (q ++ [s] ++ [t]) = y2 at *
    generalize rwsD (q ++ [s]) = y at *
    generalize (q.length : Int) = n at *
    generalize r.d = rd at *
    generalize r.t = rt at *
    simp [Dqq5, U, n3, n4, n6, n7]
theorem q13_51 {r : PR} (ok : r.Ok) {p : List (List Int)} {t l : List Int} (T : TsOk r (p ++ [t])) (hp : p.length ≤ 800) (hs : signsOk r l = true) (hl : l.length ≤ 400) (row : RowS) (s3 s4 s8 s9 s13 : Mi.Slot) : ∃ s5', Dqq5 (V13 s3 s4 (dueS r t l) r (p ++ [t]) s8 s9 (.val (.int 1)) (.val (iD l)) s13 row) = .ok .nx (V13 s3 s4 s5' r (p ++ [t]) s8 s9 (.val (.int 1)) (.val (iD l)) s13 row) := by
  have C := e_of_copy ok p t l (by omega) hs hl (T.al t (by simp)).2 (fun x hx => (T.al x (by simp [hx])).2) row
  have d1 := dueS_rd r t l
  refine ⟨if t.length + l.length ≤ 400 then .val (dueD r t l) else dueS r t l, ?_⟩
  clear T
  try unfold V13
  generalize dueS r t l = ds at *
  generalize dueD r t l = dd at *
  generalize wD (p ++ [t]) = w at *
  generalize rwsD (p ++ [t]) = y at *
  generalize iD l = il at *
  generalize r.d = rd at *
  generalize r.t = rt at *
  by_cases c : t.length + l.length ≤ 400
  · simp only [if_pos c] at d1 ⊢
    simp [Dqq5, C, d1]
  · simp only [if_neg c] at d1 ⊢
    simp [Dqq5, C, d1]
theorem q13_52 {r : PR} (ok : r.Ok) {p : List (List Int)} {t l : List Int} (T : TsOk r (p ++ [t])) (hp : p.length ≤ 800) (hs : signsOk r l = true) (hl : l.length ≤ 400) {k : Int} (k0 : k ≠ 0) (k1 : k ≠ 1) (row : RowS) (s3 s4 s9 s13 : Mi.Slot) : ∃ s13', Dqq5 (V13 s3 s4 (dueS r t l) r (p ++ [t]) (.val (iD (t ++ l))) s9 (.val (.int k)) (.val (iD l)) s13 row) = .ok .nx (V13 s3 s4 (dueS r t l) r (nowP (p ++ [t]) t l) (.val (iD (t ++ l))) s9 (.val (.int k)) (.val (iD l)) s13' row) := by
  have S1 := e_stands ok p t (by omega) (by have := (T.al t (by simp)).2; omega) row
  have W := e_wrong ok p t l (by omega) hs hl row
  have d2 := dueS_rf r t l
  have d3 := dueS_pk r t l
  have d4 := due_ne r t l
  have d5 := due_str r t l
  refine ⟨.dsk false r.d (rwsD (p ++ [t])), ?_⟩
  have n2 : addF (.lst (wD (p ++ [t]))) (.lst [iD (t ++ l)]) = some (.lst (wD (p ++ [t] ++ [t ++ l]))) := add_ww (p ++ [t]) [t ++ l] (by rw [List.length_append]; simp; omega)
  clear T
  by_cases c : t.length + l.length ≤ 400
  · have e1 : nowP (p ++ [t]) t l = p ++ [t] ++ [t ++ l] := if_pos c
    rw [e1] at W ⊢
    rw [decide_eq_true c] at d5
    clear e1 c
    try unfold V13
    generalize wD (p ++ [t] ++ [t ++ l]) = w2 at *
    generalize wD (p ++ [t]) = w at *
    generalize rwsD (p ++ [t] ++ [t ++ l]) = y2 at *
    generalize rwsD (p ++ [t]) = y at *
    generalize dueS r t l = ds at *
    generalize dueD r t l = dd at *
    generalize iD (t ++ l) = itl at *
    generalize iD l = il at *
    generalize r.d = rd at *
    generalize r.t = rt at *
    simp [Dqq5, S1, W, d2, d3, d4, d5, k0, k1, n2]
  · have e1 : nowP (p ++ [t]) t l = p ++ [t] := if_neg c
    rw [e1] at W ⊢
    rw [decide_eq_false c] at d5
    clear e1 c n2
    try unfold V13
    generalize wD (p ++ [t]) = w at *
    generalize rwsD (p ++ [t]) = y at *
    generalize dueS r t l = ds at *
    generalize dueD r t l = dd at *
    generalize iD (t ++ l) = itl at *
    generalize iD l = il at *
    generalize r.d = rd at *
    generalize r.t = rt at *
    simp [Dqq5, S1, W, d2, d3, d4, d5, k0, k1]
theorem ite_or2 {a b : M Bool} {m n : M Fl} {e : Mi.Env} (x1 : a e = .ok false e) (x2 : b e = .ok false e) : iteM (orT a b) m n e = n e := by
  rw [iteM_app, orT_app, x1, Res.bind_ok, iteR_false, x2]
  rfl
theorem seq4 {a b c d : M Fl} {e0 e1 e2 e3 e4 : Mi.Env} (h1 : a e0 = .ok .nx e1) (h2 : b e1 = .ok .nx e2) (h3 : c e2 = .ok .nx e3) (h4 : d e3 = .ok .nx e4) : seqM a (seqM b (seqM c d)) e0 = .ok .nx e4 := by
  rw [seqM_app, h1, Res.bind_ok, seqR_nx, seqM_app, h2, Res.bind_ok, seqR_nx, seqM_app, h3, Res.bind_ok, seqR_nx, h4]
theorem q13_6 {r : PR} (ok : r.Ok) {row : RowS} (h : RowIn row) (p : List (List Int)) (t : List Int) (hp : p.length ≤ 1000) (hl : t.length ≤ 400) (s3 s4 s5 s8 s9 s10 s11 s13 : Mi.Slot) : ∃ (row' : RowS), seqM Dqq6 (seqM Dqq7 (seqM Dqq8 Dqq9)) (V13 s3 s4 s5 r (p ++ [t]) s8 s9 s10 s11 s13 row) = .ok .nx (V13 s3 s4 s5 r (p ++ [t]) s8 (.val (lD (cutsP r t))) s10 s11 s13 row') ∧ RowIn row' := by
  obtain ⟨d, row1, e1, h1, hd⟩ := e_odd_text h ok
  have W := e_wrong_odd (rwsD (p ++ [t])) row1 (hd row1)
  have w1 := ne_st
  refine ⟨row1, ?_, h1⟩
  have a1 := e_D_text r.d p t row1
  have a2 := ix_lastL p t
  have a3 := e_D_rule r.d (rwsD (p ++ [t])) row1
  have a4 := e_made ok row1
  have a5 := e_D_len2 r.d p t row1
  have a6 : lenF (.lst (wD (p ++ [t]))) = some (.int ((p.length : Int) + 1)) := by simp [wD]
  have a7 := e_law_cuts ok t (by omega) row1
  have a8 := e_D_places ok p t (by omega) row1
  have a9 := e_D_waits ok p t (by omega) row1
  have b1 := add_zero_ls (cutsP r t) (Nat.le_trans (cuts_len r t) (by omega))
  have b2 : ixF (.lst (.int 0 :: (cutsP r t).map D.int)) (.int (-1)) = some (.int (((0 : Int) :: cutsP r t).getLast (by simp))) := at_last0 (cutsP r t)
  have b3 : cutF (iD t) (some (((0 : Int) :: cutsP r t).getLast (by simp))) none = some (iD (waitP r t)) := cut_iD _ _ _
  have b4 : neF (iD t) (iD t) = some (.bl false) := by simp
  have b5 : neF (lD (cutsP r t)) (lD (cutsP r t)) = some (.bl false) := by simp
  have b6 : neF (iD (waitP r t)) (iD (waitP r t)) = some (.bl false) := by simp
  have b7 := eq_rule r row1
  have hds : r.d = .obj r.ds := rfl
  unfold V13
  rw [hds] at W a1 a3 a4 a5 a8 a9 b7 ⊢
  clear hd
  have g1 := fun (l : Bool) (sl : List Mi.Slot) => pdR_ok (i := 6) (l := l) (sl := sl) a1
  have g3 := fun (l : Bool) (sl : List Mi.Slot) => pdR_ok (i := 6) (l := l) (sl := sl) a3
  have g5 := fun (l : Bool) (x0 x1 x2 x3 x4 x5 : Mi.Slot) (sl : List Mi.Slot) => ldR_ok (i := 6) (l := l) (sl := x0 :: x1 :: x2 :: x3 :: x4 :: x5 :: .dsk l (.obj r.ds) (rwsD (p ++ [t])) :: sl) rfl (by omega) a5
  have g7 := fun (sl : List Mi.Slot) => callG_ok (neg := true) (sl := sl) b7
  try unfold V13
  generalize ((0 : Int) :: cutsP r t).getLast (by simp) = z at *
  generalize D.int 0 :: (cutsP r t).map D.int = zs at *
  generalize lD (cutsP r t) = cs at *
  generalize iD (waitP r t) = wt at *
  generalize iD t = it at *
  generalize rwsD (p ++ [t]) = y at *
  generalize wD (p ++ [t]) = w at *
  generalize (p.length : Int) = n at *
  generalize r.ds = ds at *
  generalize r.t = rt at *
  have k6 : Dqq6 ⟨[.no, .val .row, .val rt, s3, s4, s5, .dsk false (.obj ds) y, .val (.lst w), s8, s9, s10, s11, .no, s13], row⟩ = .ok .nx ⟨[.no, .val .row, .val rt, s3, s4, s5, .dsk false (.obj ds) y, .val (.lst w), s8, s9, s10, s11, .no, s13], row1⟩ := by
    simp [Dqq6, e1, W, w1]
  have k7 : Dqq7 ⟨[.no, .val .row, .val rt, s3, s4, s5, .dsk false (.obj ds) y, .val (.lst w), s8, s9, s10, s11, .no, s13], row1⟩ = .ok .nx ⟨[.no, .val .row, .val rt, s3, s4, s5, .dsk false (.obj ds) y, .val (.lst w), s8, .val cs, s10, s11, .no, s13], row1⟩ := by
    simp [Dqq7, a2, a7]
  have k8 : Dqq8 ⟨[.no, .val .row, .val rt, s3, s4, s5, .dsk false (.obj ds) y, .val (.lst w), s8, .val cs, s10, s11, .no, s13], row1⟩ = .ok .nx ⟨[.no, .val .row, .val rt, s3, s4, s5, .dsk false (.obj ds) y, .val (.lst w), s8, .val cs, s10, s11, .no, s13], row1⟩ := by
    have x1 : testM (op2M (mapM' (callD 6 F_D_places (pureM [])) Ref.val) (refM 9) neF) ⟨[.no, .val .row, .val rt, s3, s4, s5, .dsk false (.obj ds) y, .val (.lst w), s8, .val cs, s10, s11, .no, s13], row1⟩ = .ok false ⟨[.no, .val .row, .val rt, s3, s4, s5, .dsk false (.obj ds) y, .val (.lst w), s8, .val cs, s10, s11, .no, s13], row1⟩ := by
      simp [a8, b5]
    have x2 : testM (op2M (mapM' (callD 6 F_D_waits (pureM [])) Ref.val) (mapM' (sliceM (mapM' (op2M (refM 7) (mapM' (negM (pureM (.int 1))) Ref.val) ixF) Ref.val) (partM (op2M (mapM' (op2M (mapM' (giveM (lstM (consM (pureM (.int 0)) (pureM [])))) Ref.val) (refM 9) addF) Ref.val) (mapM' (negM (pureM (.int 1))) Ref.val) ixF)) (pureM none)) Ref.val) neF) ⟨[.no, .val .row, .val rt, s3, s4, s5, .dsk false (.obj ds) y, .val (.lst w), s8, .val cs, s10, s11, .no, s13], row1⟩ = .ok false ⟨[.no, .val .row, .val rt, s3, s4, s5, .dsk false (.obj ds) y, .val (.lst w), s8, .val cs, s10, s11, .no, s13], row1⟩ := by
      simp [a2, a9, b1, b2, b3, b6]
    exact ite_or2 x1 x2
  have k9 : Dqq9 ⟨[.no, .val .row, .val rt, s3, s4, s5, .dsk false (.obj ds) y, .val (.lst w), s8, .val cs, s10, s11, .no, s13], row1⟩ = .ok .nx ⟨[.no, .val .row, .val rt, s3, s4, s5, .dsk false (.obj ds) y, .val (.lst w), s8, .val cs, s10, s11, .no, s13], row1⟩ := by
    have x1 : testM (op2M (mapM' (propD 6 F_D_text) Ref.val) (mapM' (op2M (refM 7) (mapM' (negM (pureM (.int 1))) Ref.val) ixF) Ref.val) neF) ⟨[.no, .val .row, .val rt, s3, s4, s5, .dsk false (.obj ds) y, .val (.lst w), s8, .val cs, s10, s11, .no, s13], row1⟩ = .ok false ⟨[.no, .val .row, .val rt, s3, s4, s5, .dsk false (.obj ds) y, .val (.lst w), s8, .val cs, s10, s11, .no, s13], row1⟩ := by
      simp [a2, b4, g1]
    have x2 : testM (eqOM (mapM' (propD 6 F_D_rule) Ref.val) (mapM' (callM F__law_made (consM (readM 2) (pureM []))) Ref.val) F_eq true) ⟨[.no, .val .row, .val rt, s3, s4, s5, .dsk false (.obj ds) y, .val (.lst w), s8, .val cs, s10, s11, .no, s13], row1⟩ = .ok false ⟨[.no, .val .row, .val rt, s3, s4, s5, .dsk false (.obj ds) y, .val (.lst w), s8, .val cs, s10, s11, .no, s13], row1⟩ := by
      simp [a4, g3, g7]
    have x3 : testM (op2M (mapM' (lenDM 6 F_D___len__) Ref.val) (mapM' (op2M (mapM' (op1M (refM 7) lenF) Ref.val) (mapM' (pureM (.int 1)) Ref.val) subF) Ref.val) neF) ⟨[.no, .val .row, .val rt, s3, s4, s5, .dsk false (.obj ds) y, .val (.lst w), s8, .val cs, s10, s11, .no, s13], row1⟩ = .ok false ⟨[.no, .val .row, .val rt, s3, s4, s5, .dsk false (.obj ds) y, .val (.lst w), s8, .val cs, s10, s11, .no, s13], row1⟩ := by
      simp [a6, g5]
    exact ite_or3 x1 x2 x3
  exact seq4 k6 k7 k8 k9
end Cut

set_option Elab.async false
set_option linter.all false
set_option maxRecDepth 100000
set_option maxHeartbeats 1000000
namespace Cut
open PySem Mi
open L2 (atI ixN atI_nat)
/-! P13: the law -/
theorem seq_assoc (a b c : M Fl) (e : Mi.Env) : seqM a (seqM b c) e = seqM (seqM a b) c e := by
  rw [seqM_app, seqM_app (seqM a b), seqM_app a b]
  cases a e with
  | ok fl e1 =>
    cases fl with
    | nx =>
      rw [Res.bind_ok, Res.bind_ok, seqR_nx, seqR_nx, seqM_app]
    | _ => rfl
  | exc x e1 => rfl
  | err => rfl
theorem seq3 (a b c d : M Fl) (e : Mi.Env) : seqM a (seqM b (seqM c d)) e = seqM (seqM a (seqM b c)) d e := by
  have h : seqM b (seqM c d) = seqM (seqM b c) d := funext fun e => seq_assoc b c d e
  rw [h]
  exact seq_assoc a (seqM b c) d e
theorem turn13 {r : PR} (ok : r.Ok) {ts : List (List Int)} (T : TsOk r ts) (hn : ts.length ≤ 800) {row : RowS} (h : RowIn row) (s3 s4 s5 s8 s9 s10 s11 s13 : Mi.Slot) : ∃ (ts' : List (List Int)) (t5 t8 t9 t10 t11 t13 : Mi.Slot) (row' : RowS), b_law_1 (V13 s3 s4 s5 r ts s8 s9 s10 s11 s13 row) = .ok .nx (V13 s3 s4 t5 r ts' t8 t9 t10 t11 t13 row') ∧ TsOk r ts' ∧ ts'.length ≤ ts.length + 1 ∧ RowIn row' := by
  obtain ⟨p, t, rfl, _, ht, _⟩ := T.split
  have hp : p.length + 1 ≤ 800 := by
    rw [List.length_append] at hn
    exact hn
  obtain ⟨k, l, row1, e1, h1, hs, hl⟩ := q13_1 ok h s3 s4 s5 (p ++ [t]) s8 s9 s10 s11 s13
  have e2 := q13_2 ok row1 s3 s4 s5 p t l ht hl s8 s9 (.val (.int k)) s13
  obtain ⟨ts', t5, t13, e5, T', n'⟩ : ∃ (ts' : List (List Int)) (t5 t13 : Mi.Slot), Dqq5 (V13 s3 s4 (dueS r t l) r (p ++ [t]) (.val (iD (t ++ l))) s9 (.val (.int k)) (.val (iD l)) s13 row1) = .ok .nx (V13 s3 s4 t5 r ts' (.val (iD (t ++ l))) s9 (.val (.int k)) (.val (iD l)) t13 row1) ∧ TsOk r ts' ∧ ts'.length ≤ (p ++ [t]).length + 1 := by
    by_cases k0 : k = 0
    · subst k0
      obtain ⟨ts', e, T', n'⟩ := q13_50 (l := l) T row1 s3 s4 (dueS r t l) (.val (iD (t ++ l))) s9 (.val (iD l)) s13
      exact ⟨ts', _, _, e, T', by rw [List.length_append]; exact Nat.le_succ_of_le n'⟩
    · by_cases k1 : k = 1
      · subst k1
        obtain ⟨s5', e⟩ := q13_51 ok T (by omega) hs hl row1 s3 s4 (.val (iD (t ++ l))) s9 s13
        exact ⟨p ++ [t], _, _, e, T, Nat.le_succ _⟩
      · obtain ⟨s13', e⟩ := q13_52 ok T (by omega) hs hl k0 k1 row1 s3 s4 s9 s13
        exact ⟨nowP (p ++ [t]) t l, _, _, e, T.now hs, now_len _ _ _⟩
  obtain ⟨p', t', rfl, _, ht', _⟩ := T'.split
  have hp' : p'.length ≤ 1000 := by
    rw [List.length_append, List.length_append] at n'
    simp at n'
    omega
  obtain ⟨row2, e6, h2⟩ := q13_6 ok h1 p' t' hp' ht' s3 s4 t5 (.val (iD (t ++ l))) s9 (.val (.int k)) (.val (iD l)) t13
  refine ⟨p' ++ [t'], t5, .val (iD (t ++ l)), .val (lD (cutsP r t')), .val (.int k), .val (iD l), t13, row2, ?_, T', n', h2⟩
  have e2' := seq3 Dqq2 Dqq3 Dqq4 (seqM Dqq5 (seqM Dqq6 (seqM Dqq7 (seqM Dqq8 Dqq9))))
  rw [Dqq_eq, seqM_app, e1, Res.bind_ok, seqR_nx, e2', seqM_app, e2, Res.bind_ok, seqR_nx, seqM_app, e5, Res.bind_ok, seqR_nx]
  exact e6
theorem turns13 {r : PR} (ok : r.Ok) (s4 : Mi.Slot) : ∀ (ds : List D) {ts : List (List Int)}, TsOk r ts → ts.length + ds.length ≤ 800 → ∀ {row : RowS}, RowIn row → ∀ (s3 s5 s8 s9 s10 s11 s13 : Mi.Slot), ∃ (ts' : List (List Int)) (t3 t5 t8 t9 t10 t11 t13 : Mi.Slot) (row' : RowS), forM' (gN 3) b_law_1 ds (V13 s3 s4 s5 r ts s8 s9 s10 s11 s13 row) = .ok .nx (V13 t3 s4 t5 r ts' t8 t9 t10 t11 t13 row') ∧ TsOk r ts' ∧ ts'.length ≤ 800
  | [], ts, T, hn, row, h, s3, s5, s8, s9, s10, s11, s13 => ⟨ts, s3, s5, s8, s9, s10, s11, s13, row, by simp, T, by simpa using hn⟩
  | d :: ds, ts, T, hn, row, h, s3, s5, s8, s9, s10, s11, s13 => by
    rw [List.length_cons] at hn
    obtain ⟨ts1, t5, t8, t9, t10, t11, t13, row1, hb, T1, n1, h1⟩ := turn13 ok T (by omega) h (.val d) s4 s5 s8 s9 s10 s11 s13
    obtain ⟨ts2, u3, u5, u8, u9, u10, u11, u13, row2, ih, T2, n2⟩ := turns13 ok s4 ds T1 (by omega) h1 (.val d) t5 t8 t9 t10 t11 t13
    exact ⟨ts2, u3, u5, u8, u9, u10, u11, u13, row2, by rw [for_nx (e1 := V13 (.val d) s4 s5 r ts s8 s9 s10 s11 s13 row) (by simp) hb, ih], T2, n2⟩
noncomputable section
def Dlq1 : M Fl := (asgM 2 (callM F__law_rule (consM (readM 1) (consM (pureM (.int 3)) (consM (pureM (.int 3)) (consM (pureM (.int 6)) (pureM [])))))))
def Dlq2 : M Fl := (parD 6 7 (mkD (callM F__law_made (consM (readM 2) (pureM [])))) (giveM (lstM (consM (tupM (pureM [])) (pureM [])))))
def Dlq3 : M Fl := (forL (listM (consM (callM F__law_pick (consM (readM 1) (consM (pureM (.int 13)) (pureM [])))) (pureM [])) range1D) (gN 3)
      (b_law_1))
def Dlq4 : M Fl := (asgM 4 (op2M (mapM' (tupM (consM (pureM (.int 0)) (pureM []))) Ref.val) (mapM' (op2M (mapM' (pureM (.int 400)) Ref.val) (mapM' (op1M (mapM' (op2M (refM 7) (mapM' (negM (pureM (.int 1))) Ref.val) ixF) Ref.val) lenF) Ref.val) subF) Ref.val) mulF))
def Dlq5 : M Fl := (asgO 5 (lcM (walkM (callM F__law_cuts (consM (readM 2) (consM (op2M (mapM' (op2M (refM 7) (mapM' (negM (pureM (.int 1))) Ref.val) ixF) Ref.val) (refM 4) addF) (pureM []))))) (gN 12) (u_law_2) (c_law_2) [12]))
def Dlq6 : M Fl := (retM (andV (op2M (mapM' (callD 6 F__law_wrong (consM (readM 4) (pureM []))) Ref.val) (refM 5) eqF) (op2M (mapM' (callD 6 F__law_wrong (consM (tupM (consM (pureM (.int 0)) (pureM []))) (pureM []))) Ref.val) (mapM' (pureM (.str "text")) Ref.val) eqF)))
theorem Dlq_eq : m_law = seqM Dlq1 (seqM Dlq2 (seqM Dlq3 (seqM Dlq4 (seqM Dlq5 Dlq6)))) := rfl
end
theorem law_true (ns : List Int) (_ : ns.length ≤ 63) : ∃ e, m_law ⟨.no :: .val .row :: List.replicate 12 .no, row0 ns⟩ = .ok (.rt (.bl true)) e := by
  obtain ⟨r, row1, e1, h1, ok, _⟩ := e_law_rule (row := row0 ns) (show (0 : Int) ≤ 0 by decide) (signs := 3) (window := 3) (most := 6) (by decide) (by decide) (by decide) (by decide) (by decide) (by decide)
  have hmade := e_made ok row1
  have q1 : Dlq1 ⟨[.no, .val .row, .no, .no, .no, .no, .no, .no, .no, .no, .no, .no, .no, .no], row0 ns⟩ = .ok .nx ⟨[.no, .val .row, .val r.t, .no, .no, .no, .no, .no, .no, .no, .no, .no, .no, .no], row1⟩ := by
    try unfold V13
    generalize r.t = rt at *
    simp [Dlq1, e1]
  have q2 : Dlq2 ⟨[.no, .val .row, .val r.t, .no, .no, .no, .no, .no, .no, .no, .no, .no, .no, .no], row1⟩ = .ok .nx (V13 .no .no .no r [[]] .no .no .no .no .no row1) := by
    have e0 : rwsD [[]] = .tup [.tup []] := rfl
    have e0' : wD [[]] = [.tup []] := rfl
    unfold V13
    rw [e0, e0']
    clear e0 e0'
    try unfold V13
    generalize r.t = rt at *
    generalize r.d = rd at *
    simp [Dlq2, parD, mkD, hmade]
  obtain ⟨n, row2, e2, n0, n1, h2⟩ := e_pick h1 (m := 13) (by decide) (by decide)
  have hr : range1D [.int n] = some (rngL 0 n) := range1_ok (okI_small (by omega) (by omega))
  have T0 : TsOk r [[]] := ⟨by simp, fun x hx => by
    have := List.mem_singleton.mp hx
    subst this
    exact ⟨rfl, by decide⟩⟩
  have hlen : (rngL 0 n).length ≤ 13 := by
    unfold rngL
    rw [List.length_map, List.length_range]
    omega
  obtain ⟨ts, t3, t5, t8, t9, t10, t11, t13, row3, e3, T, hn⟩ := turns13 ok .no (rngL 0 n) T0 (by simp; omega) h2 .no .no .no .no .no .no .no
  have q3 : Dlq3 (V13 .no .no .no r [[]] .no .no .no .no .no row1) = .ok .nx (V13 t3 .no t5 r ts t8 t9 t10 t11 t13 row3) := by
    unfold V13 at e3 ⊢
    generalize rngL 0 n = rl at *
    generalize rwsD [[]] = y at *
    generalize wD [[]] = w at *
    generalize r.t = rt at *
    generalize r.d = rd at *
    generalize rwsD ts = y' at *
    generalize wD ts = w' at *
    simp [Dlq3, e2, hr, e3]
  obtain ⟨p, t, rfl, hst, ht, _⟩ := T.split
  have hp : p.length ≤ 800 := by
    rw [List.length_append] at hn
    omega
  have hz := mul_zeros (400 - t.length) (by omega)
  have hz' : (((400 - t.length : Nat) : Int)) = 400 - (t.length : Int) := by omega
  rw [hz'] at hz
  have hs0 := signs_zeros ok (400 - t.length)
  have hl0 : (List.replicate (400 - t.length) (0 : Int)).length = 400 - t.length := List.length_replicate
  try unfold V13
  generalize List.replicate (400 - t.length) (0 : Int) = l at hz hs0 hl0
  have a2 := ix_lastL p t
  have a3 := add_ii2 t l (by omega)
  have a5 := len_iD t
  have q4 : Dlq4 (V13 t3 .no t5 r (p ++ [t]) t8 t9 t10 t11 t13 row3) = .ok .nx (V13 t3 (.val (iD l)) t5 r (p ++ [t]) t8 t9 t10 t11 t13 row3) := by
    try unfold V13
    generalize rwsD (p ++ [t]) = y at *
    generalize wD (p ++ [t]) = w at *
    generalize iD t = it at *
    generalize iD l = il at *
    generalize (t.length : Int) = tn at *
    generalize r.t = rt at *
    generalize r.d = rd at *
    simp [Dlq4, a2, a5, hz]
  have a6 := e_law_cuts ok (t ++ l) (by rw [List.length_append]; omega) row3
  have a7 : itemsD (lD (cutsP r (t ++ l))) = some ((cutsP r (t ++ l)).map D.int) := rfl
  have hlc := due_lc (r := r) t l u_law_2 c_law_2 (V13 t3 (.val (iD l)) t5 r (p ++ [t]) t8 t9 t10 t11 t13 row3).sl row3 (by simp) rfl (by omega) (fun x => by
    try unfold V13
    generalize wD (p ++ [t]) = w at *
    generalize iD t = it at *
    generalize iD l = il at *
    generalize rwsD (p ++ [t]) = y at *
    generalize r.t = rt at *
    generalize r.d = rd at *
    simp [u_law_2, a2, a5]) (fun x => by simp [c_law_2])
  have q5 : Dlq5 (V13 t3 (.val (iD l)) t5 r (p ++ [t]) t8 t9 t10 t11 t13 row3) = .ok .nx (V13 t3 (.val (iD l)) (.own (.lst ((cutsF r t l).map D.int))) r (p ++ [t]) t8 t9 t10 t11 t13 row3) := by
    unfold V13 at hlc ⊢
    generalize (cutsF r t l).map D.int = cf at *
    generalize (cutsP r (t ++ l)).map D.int = cp at *
    generalize lD (cutsP r (t ++ l)) = lc at *
    generalize rwsD (p ++ [t]) = y at *
    generalize wD (p ++ [t]) = w at *
    generalize iD (t ++ l) = itl at *
    generalize iD t = it at *
    generalize iD l = il at *
    generalize r.t = rt at *
    generalize r.d = rd at *
    simp [Dlq5, a2, a3, a6, a7, hlc]
  have W1 := e_wrong ok p t l (by omega) hs0 (by omega) row3
  have c1 : t.length + l.length ≤ 400 := by omega
  have c2 : ¬ ((t ++ l).length + [(0 : Int)].length ≤ 400) := by
    rw [List.length_append]
    simp
    omega
  have W2 := e_wrong ok (p ++ [t]) (t ++ l) [0] (by rw [List.length_append]; simp; omega) (signs_zeros ok 1) (by decide) row3
  unfold dueD nowP at W1 W2
  rw [if_pos c1, if_pos c1] at W1
  rw [if_neg c2, if_neg c2] at W2
  have W2' : F__law_wrong r.d (rwsD (p ++ [t] ++ [t ++ l])) [.tup [.int 0]] row3 = .ret (.str "text") r.d (rwsD (p ++ [t] ++ [t ++ l])) row3 := W2
  have hod : OD.d (.lst ((cutsF r t l).map D.int)) = lD (cutsF r t l) := rfl
  have b1 : eqF (lD (cutsF r t l)) (lD (cutsF r t l)) = some (.bl true) := by simp
  have b2 := eq_st
  have q6 : ∃ e, Dlq6 (V13 t3 (.val (iD l)) (.own (.lst ((cutsF r t l).map D.int))) r (p ++ [t]) t8 t9 t10 t11 t13 row3) = .ok (.rt (.bl true)) e := by
    refine ⟨⟨[.no, .val .row, .val r.t, t3, .val (iD l), .own (.lst ((cutsF r t l).map D.int)), .dsk false r.d (rwsD (p ++ [t] ++ [t ++ l])), .val (.lst (wD (p ++ [t]))), t8, t9, t10, t11, .no, t13], row3⟩, ?_⟩
    clear W2
    try unfold V13
    generalize OD.lst ((cutsF r t l).map D.int) = cf at *
    generalize lD (cutsF r t l) = lc at *
    generalize rwsD (p ++ [t] ++ [t ++ l]) = y2 at *
    generalize rwsD (p ++ [t]) = y at *
    generalize wD (p ++ [t]) = w at *
    generalize iD l = il at *
    generalize r.t = rt at *
    generalize r.d = rd at *
    simp [Dlq6, W1, W2', hod, b1, b2]
  obtain ⟨e, q6⟩ := q6
  refine ⟨e, ?_⟩
  show m_law ⟨[.no, .val .row, .no, .no, .no, .no, .no, .no, .no, .no, .no, .no, .no, .no], row0 ns⟩ = _
  rw [Dlq_eq, seqM_app, q1, Res.bind_ok, seqR_nx, seqM_app, q2, Res.bind_ok, seqR_nx, seqM_app, q3, Res.bind_ok, seqR_nx, seqM_app, q4, Res.bind_ok, seqR_nx, seqM_app, q5, Res.bind_ok, seqR_nx]
  exact q6
end Cut

theorem PySem.Challenge.cw_cutsagain_k13_whole_desks_holds : PySem.Challenge.rw_cutsagain_k13_whole_desks.Holds :=
  Cut.holds Cut.law_true
