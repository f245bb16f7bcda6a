import PyProof.Rows.All
import Wide.All
import OpenK.AllK
import Wide.FinOn
import KE.KStateDown
import KE.KeyNested
import HandS.ForMost
import HandS.Exc
import HandS.More
import HandS.TryOnly
import HandS.ExcOwn
import HandS.WordsExc
import HandS.Defaults
import HandS.HeadHook1
import HandS.HeadHook2
import HandS.Star
import HandS.TupAny
import HandS.TupLe
import HandS.TupMul
import HandS.Deep
import HandS.Conv
import HandS.Style
import HandS.IsInst
import HandS.Wide
import PyProof.P3In
import PyProof.StrOps2
import KE.KDictKeyed
import KE.KDictLaw
import HandS.TupLen
import HandS.Comp
import KE.GoesNewDict
import KE.GoesEnum
import KE.GoesDict
import HandS.Iter
import KE.KDictWalk
import HandS.Small
import HandS.ExcIs
import HandS.TryMany
import HandS.Head0
import HandS.Head1
import HandS.Head2
import HandS.HeadEnd
import HandS.DictComp
import KE.KDictDisplayH
import HandS.ExcInit
import HandS.ExcField
import KE.KExcIs
import HandS.TupSets
import HandS.SetFor
import KE.DataMinMax
import KE.SortData
import KE.KEqDict
import KE.KRevSl
import KE.KDictCopyH
import KE.KDictSum
import HandS.Property
import PyProof.InstNe
import HandS.Text
import HandS.FStr
import KE.DataFind
import KE.DataMinKey
import HandS.SortKw
import KE.GoesNew
import HandS.ExcValue
import PySem.Challenge.RW_cutsagain_k19_errors_apart
set_option Elab.async false
set_option linter.all false
set_option maxRecDepth 100000
set_option maxHeartbeats 2000000
/-! Mi, part A: data, the mirror's monad, how data stands in the heap, the judgements. -/
namespace Mi
open PySem PySem.Spec PyProof.Rows L2

/-! ### data -/
abbrev St : Type := L2.St
inductive D where
  | non | bl (b : Bool) | int (i : Int) | str (s : Str) | tup (l : List D) | lst (l : List D) | dct (l : List (D × D)) | obj (l : List D) | row | exn (c : Str) (ns : List Str) (l : List D)
inductive OD where
  | lst (l : List D) | dct (l : List (D × D))
def OD.d : OD → D
  | .lst l => .lst l
  | .dct l => .dct l
inductive Slot where
  | no | val (d : D) | own (o : OD) | pin | box (l : List (D × List D))
/-- a name's own container -/
def Slot.isC : Slot → Bool
  | .own _ => true
  | .box _ => true
  | _ => false
def Slot.isB : Slot → Bool
  | .box _ => true
  | _ => false
structure RowS where
  xs : List Int
  at_ : Int
  big : Int
  seed : Int
structure Env where
  sl : List Slot
  row : RowS
structure Exn where
  cls : Str
  fs : List (Str × D)
inductive Res (α : Type) where
  | ok (a : α) (e : Env) | exc (x : Exn) (e : Env) | err
abbrev M (α : Type) : Type := Env → Res α
def pureM {α : Type} (a : α) : M α := fun e => .ok a e
def bindM {α β : Type} (m : M α) (f : α → M β) : M β := fun e => match m e with
  | .ok a e' => f a e'
  | .exc x e' => .exc x e'
  | .err => .err
def errM {α : Type} : M α := fun _ => .err
def liftO {α : Type} (o : Option α) : M α := fun e => match o with
  | some a => .ok a e
  | none => .err
def Res.wp {α : Type} (r : Res α) (A : α → Env → Prop) (B : Exn → Env → Prop) : Prop := match r with
  | .ok a e => A a e
  | .exc x e => B x e
  | .err => False
theorem wp_mono {α : Type} {r : Res α} {A A' : α → Env → Prop} {B B' : Exn → Env → Prop} (h : r.wp A B) (hA : ∀ a e, A a e → A' a e) (hB : ∀ x e, B x e → B' x e) : r.wp A' B' := by
  cases r with
  | ok a e => exact hA _ _ h
  | exc x e => exact hB _ _ h
  | err => exact h
theorem wp_bind {α β : Type} {m : M α} {f : α → M β} {e : Env} {A : β → Env → Prop} {B : Exn → Env → Prop} : (bindM m f e).wp A B ↔ (m e).wp (fun a e' => (f a e').wp A B) B := by
  unfold bindM
  cases m e with
  | ok a e' => exact Iff.rfl
  | exc x e' => exact Iff.rfl
  | err => exact Iff.rfl

mutual
def D.key : D → Option NestedKey
  | .non => some .none
  | .int i => some (.num i)
  | .str s => some (.text s)
  | .tup l => (D.keys l).map .tup
  | .bl b => some (.num (if b = true then 1 else 0))
  | .lst _ => none
  | .dct _ => none
  | .obj _ => none
  | .row => none
  | .exn _ _ _ => none
def D.keys : List D → Option (List NestedKey)
  | [] => some []
  | d :: ds => match D.key d, D.keys ds with
    | some k, some ks => some (k :: ks)
    | _, _ => none
end
/-- a dict's key -/
def D.hk (d : D) : Option NestedKey := match d.key with
  | some k => if k.depth ≤ 8 then some k else none
  | none => none
theorem hk_of {d : D} {k : NestedKey} (h : d.hk = some k) : d.key = some k ∧ k.depth ≤ 8 := by
  unfold D.hk at h
  cases e : d.key with
  | none =>
    rw [e] at h
    cases h
  | some k' =>
    rw [e] at h
    by_cases c : k'.depth ≤ 8
    · simp only [if_pos c] at h
      cases h
      exact ⟨rfl, c⟩
    · simp only [if_neg c] at h
      cases h

/-! ### a dict whose keys are nested -/
def DEnt (w : World) (e : NestedKey × V × V) (de : DictEntry) : Prop := de.hash = e.1.hash w ∧ RelV e.2.1 de.key ∧ RelV e.2.2 de.val
/-- all keys are tuples, or all are numbers -/
def Uni (es : List (NestedKey × V × V)) : Prop := (∀ e ∈ es, ∃ a, e.2.1 = .ref a) ∨ (∀ e ∈ es, ∃ i, e.2.1 = .int i)
/-- what is true of a dict's object -/
def DF (w : World) (a : Addr) (es : List (NestedKey × V × V)) (o : Obj) : Prop :=
  (a == sysModules) = false ∧ es.length ≤ sizeLine ∧ (es.map (·.1)).Nodup ∧ Uni es ∧ o.ExactDict ∧ ∃ des ep, o.data = .dict des ep ∧ Paired (DEnt w) es des.toList
/-- this very object stands at a -/
abbrev objO (a : Addr) (o : Obj) : HO := .ext fun h => h.get? a = some o
def DictAt (w : World) (H : Hp) (a : Addr) (es : List (NestedKey × V × V)) : Prop := ∃ o, H a = some (objO a o) ∧ DF w a es o
theorem DictAt.mono {w : World} {H H' : Hp} {a : Addr} {es : List (NestedKey × V × V)} (h : DictAt w H a es) (s : Same H H') : DictAt w H' a es := let ⟨o, h1, h2⟩ := h; ⟨o, s _ _ h1, h2⟩

/-! ### data in the heap -/
/-- an error caught and kept -/
def ExT (cls : Value) (d : Option Addr) (a : Addr) : HO := .ext fun h => ∃ (oe : Obj) (vs : Array Value), h.get? a = some oe ∧ Zc cls d oe ∧ oe.data = .fields vs ∧ ∀ v, oe.data ≠ .cell v
/-- the fields of a Rule -/
def ruleF (vs : List V) : List (Str × V) := (["many", "wide", "rows", "low", "high"] : List Str).zip vs
section
variable (w : World) (K : PySem.W.Frag) (ra : Addr)
mutual
inductive Rep (F : Hp) : V → D → Prop
  | non : Rep F .non .non
  | bl (b : Bool) : Rep F (.bl b) (.bl b)
  | int (i : Int) : Rep F (.int i) (.int i)
  | str (s : Str) : Rep F (.str s) (.str s)
  | tup {a : Addr} {vs : List V} {ds : List D} : SqT K F a vs → RepA F vs ds → Rep F (.ref a) (.tup ds)
  | lst {a : Addr} {vs : List V} {ds : List D} : F a = some (.lst vs) → RepA F vs ds → Rep F (.ref a) (.lst ds)
  | dct {a : Addr} {es : List (NestedKey × V × V)} {kvs : List (D × D)} : DictAt w F a es → RepE F es kvs → Rep F (.ref a) (.dct kvs)
  | obj {a dx : Addr} {vs : List V} {ds : List D} : F a = some (.ins (He.ga K "Rule") dx (ruleF vs)) → vs.length = 5 → RepA F vs ds → Rep F (.ref a) (.obj ds)
  | row : Rep F (.ref ra) .row
  | exn0 {a : Addr} {c : Str} : F a = some (ExT (.ref (He.ga K c)) none a) → Rep F (.ref a) (.exn c [] [])
  | exn {a dd : Addr} {c : Str} {ns : List Str} {vs : List V} {l : List D} : F a = some (ExT (.ref (He.ga K c)) (some dd) a) → F dd = some (.xd (ns.zip vs)) → ns.length = vs.length → RepA F vs l → Rep F (.ref a) (.exn c ns l)
inductive RepA (F : Hp) : List V → List D → Prop
  | nil : RepA F [] []
  | cons {v : V} {d : D} {vs : List V} {ds : List D} : Rep F v d → RepA F vs ds → RepA F (v :: vs) (d :: ds)
inductive RepE (F : Hp) : List (NestedKey × V × V) → List (D × D) → Prop
  | nil : RepE F [] []
  | cons {k : NestedKey} {kv vv : V} {dk dv : D} {es : List (NestedKey × V × V)} {kvs : List (D × D)} : dk.hk = some k → Rep F kv dk → Rep F vv dv → RepE F es kvs → RepE F ((k, kv, vv) :: es) ((dk, dv) :: kvs)
end
end
theorem Same.seqT {K : PySem.W.Frag} {H H' : Hp} {a : Addr} {xs : List V} (e : Same H H') (h : SqT K H a xs) : SqT K H' a xs := by
  rcases h with (h | ⟨o, h⟩) | h
  · exact .inl (.inl (e _ _ h))
  · exact .inl (.inr ⟨o, e _ _ h⟩)
  · exact .inr h
section
variable {w : World} {K : PySem.W.Frag} {ra : Addr} {F F' : Hp}
mutual
theorem Rep.mono (e : Same F F') : ∀ {v : V} {d : D}, Rep w K ra F v d → Rep w K ra F' v d
  | _, _, .non => .non
  | _, _, .bl b => .bl b
  | _, _, .int i => .int i
  | _, _, .str s => .str s
  | _, _, .tup h r => .tup (Same.seqT e h) (RepA.mono e r)
  | _, _, .lst h r => .lst (e _ _ h) (RepA.mono e r)
  | _, _, .dct h r => .dct (h.mono e) (RepE.mono e r)
  | _, _, .obj h hl r => .obj (e _ _ h) hl (RepA.mono e r)
  | _, _, .row => .row
  | _, _, .exn0 h => .exn0 (e _ _ h)
  | _, _, .exn h h2 hl r => .exn (e _ _ h) (e _ _ h2) hl (RepA.mono e r)
theorem RepA.mono (e : Same F F') : ∀ {vs : List V} {ds : List D}, RepA w K ra F vs ds → RepA w K ra F' vs ds
  | _, _, .nil => .nil
  | _, _, .cons h r => .cons (Rep.mono e h) (RepA.mono e r)
theorem RepE.mono (e : Same F F') : ∀ {es : List (NestedKey × V × V)} {kvs : List (D × D)}, RepE w K ra F es kvs → RepE w K ra F' es kvs
  | _, _, .nil => .nil
  | _, _, .cons k h1 h2 r => .cons k (Rep.mono e h1) (Rep.mono e h2) (RepE.mono e r)
end
theorem RepA.length : ∀ {vs : List V} {ds : List D}, RepA w K ra F vs ds → vs.length = ds.length
  | _, _, .nil => rfl
  | _, _, .cons _ r => congrArg (· + 1) (RepA.length r)
theorem RepE.length : ∀ {es : List (NestedKey × V × V)} {kvs : List (D × D)}, RepE w K ra F es kvs → es.length = kvs.length
  | _, _, .nil => rfl
  | _, _, .cons _ _ _ r => congrArg (· + 1) (RepE.length r)
theorem RepA.get : ∀ {vs : List V} {ds : List D} {i : Nat} {d : D}, RepA w K ra F vs ds → ds[i]? = some d → ∃ v, vs[i]? = some v ∧ Rep w K ra F v d
  | _, _, i, d, .nil, e => by simp at e
  | _, _, 0, d, .cons h r, e => by
    simp at e
    subst e
    exact ⟨_, rfl, h⟩
  | _, _, i + 1, d, .cons h r, e => by
    obtain ⟨v, h1, h2⟩ := RepA.get (i := i) r (by simpa using e)
    exact ⟨v, by simpa using h1, h2⟩
theorem RepA.get' : ∀ {vs : List V} {ds : List D} {i : Nat} {v : V}, RepA w K ra F vs ds → vs[i]? = some v → ∃ d, ds[i]? = some d ∧ Rep w K ra F v d
  | _, _, i, d, .nil, e => by simp at e
  | _, _, 0, d, .cons h r, e => by
    simp at e
    subst e
    exact ⟨_, rfl, h⟩
  | _, _, i + 1, d, .cons h r, e => by
    obtain ⟨v, h1, h2⟩ := RepA.get' (i := i) r (by simpa using e)
    exact ⟨v, by simpa using h1, h2⟩
theorem RepA.append : ∀ {vs us : List V} {ds es : List D}, RepA w K ra F vs ds → RepA w K ra F us es → RepA w K ra F (vs ++ us) (ds ++ es)
  | _, _, _, _, .nil, h => h
  | _, _, _, _, .cons a r, h => .cons a (RepA.append r h)
theorem RepA.take : ∀ {vs : List V} {ds : List D} (n : Nat), RepA w K ra F vs ds → RepA w K ra F (vs.take n) (ds.take n)
  | _, _, 0, _ => by simp; exact .nil
  | _, _, _ + 1, .nil => .nil
  | _, _, n + 1, .cons a r => .cons a (RepA.take n r)
theorem RepA.drop : ∀ {vs : List V} {ds : List D} (n : Nat), RepA w K ra F vs ds → RepA w K ra F (vs.drop n) (ds.drop n)
  | _, _, 0, r => r
  | _, _, _ + 1, .nil => .nil
  | _, _, n + 1, .cons _ r => RepA.drop n r
theorem RepA.set {v : V} {d : D} (h : Rep w K ra F v d) : ∀ {vs : List V} {ds : List D} (n : Nat), RepA w K ra F vs ds → RepA w K ra F (vs.set n v) (ds.set n d)
  | _, _, 0, .nil => .nil
  | _, _, _ + 1, .nil => .nil
  | _, _, 0, .cons _ r => .cons h r
  | _, _, n + 1, .cons a r => .cons a (RepA.set h n r)
theorem RepA.reverse : ∀ {vs : List V} {ds : List D}, RepA w K ra F vs ds → RepA w K ra F vs.reverse ds.reverse
  | _, _, .nil => .nil
  | _, _, .cons a r => by
    rw [List.reverse_cons, List.reverse_cons]
    exact RepA.append (RepA.reverse r) (.cons a .nil)
theorem RepA.ints : ∀ {vs : List V} {is : List Int}, RepA w K ra F vs (is.map D.int) → vs = is.map V.int
  | vs, [], h => by
    cases h
    rfl
  | vs, i :: is, h => by
    cases h with
    | cons a r =>
      cases a
      rw [RepA.ints r]
      rfl
theorem RepA.ofInts : ∀ (is : List Int), RepA w K ra F (is.map V.int) (is.map D.int)
  | [] => .nil
  | i :: is => .cons (.int i) (RepA.ofInts is)
end

/-! ### the state -/
/-- what is to stand as it is; what is not to be given away -/
structure Kp where
  h : Hp
  pin : Addr → Prop
  me : V := .non
section
variable (w : World) (K : PySem.W.Frag) (ra : Addr)
def RepO (F H : Hp) (a : Addr) : OD → Prop
  | .lst ds => ∃ vs, H a = some (.lst vs) ∧ RepA w K ra F vs ds
  | .dct kvs => ∃ es, DictAt w H a es ∧ RepE w K ra F es kvs
/-- a dict whose values are lists that nobody else knows -/
inductive RepB (F H : Hp) : List (NestedKey × V × V) → List (D × List D) → Prop
  | nil : RepB F H [] []
  | cons {k : NestedKey} {kv : V} {b : Addr} {vs : List V} {dk : D} {ds : List D} {es : List (NestedKey × V × V)} {kls : List (D × List D)} : dk.hk = some k → Rep w K ra F kv dk → H b = some (.lst vs) → RepA w K ra F vs ds → RepB F H es kls → RepB F H ((k, kv, .ref b) :: es) ((dk, ds) :: kls)
/-- what a dict holds -/
def Inn (H : Hp) (a p : Addr) : Prop := ∃ o des ep, H a = some (objO a o) ∧ o.data = .dict des ep ∧ ∃ de ∈ des.toList, de.val = Value.ref p
/-- where a name's own container stands -/
def Foot (H : Hp) (s : Slot) (a p : Addr) : Prop := p = a ∨ (s.isB = true ∧ Inn H a p)
def BoxAt (HK : Kp) (F H : Hp) (a : Addr) (l : List (D × List D)) : Prop := ∃ es, DictAt w H a es ∧ RepB w K ra F H es l ∧ (es.map (·.2.2)).Nodup ∧ ∀ p, (p = a ∨ Inn H a p) → F p = none ∧ HK.h p = none ∧ p ≠ ra ∧ H p ≠ none
def SlotOk (HK : Kp) (F H : Hp) (ov : Option (Option V)) : Slot → Prop
  | .no => True
  | .val d => ∃ v, ov = some (some v) ∧ Rep w K ra F v d
  | .own o => ∃ a, ov = some (some (.ref a)) ∧ RepO w K ra F H a o ∧ F a = none ∧ HK.h a = none ∧ a ≠ ra
  | .pin => ov = some (some HK.me)
  | .box l => ∃ a, ov = some (some (.ref a)) ∧ BoxAt w K ra HK F H a l
/-- no two names' containers stand at the same place -/
def Sep (e : Env) (σ : St) (H : Hp) : Prop := ∀ (i j : Nat) (s s' : Slot) (a a' p : Addr), i ≠ j → e.sl[i]? = some s → e.sl[j]? = some s' → s.isC = true → s'.isC = true → σ[i]? = some (some (.ref a)) → σ[j]? = some (some (.ref a')) → Foot H s a p → ¬ Foot H s' a' p
/-- a place that no name's container takes -/
def NotIn (e : Env) (σ : St) (H : Hp) (p : Addr) : Prop := ∀ (i : Nat) (s : Slot) (a : Addr), e.sl[i]? = some s → s.isC = true → σ[i]? = some (some (.ref a)) → ¬ Foot H s a p
def RowOk (F H : Hp) (r : RowS) : Prop := ∃ L, H ra = some (.lst [.ref L, .int r.at_, .int r.big, .int r.seed]) ∧ F L = some (.lst (r.xs.map V.int))
structure Rel (HK : Kp) (F : Hp) (e : Env) (σ : St) (H : Hp) : Prop where
  fh : Same F H
  kh : Same HK.h H
  len : e.sl.length = σ.length
  sl : ∀ (i : Nat) (s : Slot), e.sl[i]? = some s → SlotOk w K ra HK F H σ[i]? s
  sep : Sep e σ H
  row : RowOk ra F H e.row
  fra : F ra = none
  kra : HK.h ra = none
  pn : ∀ a, HK.pin a → HK.h a ≠ none ∧ F a = none
end
section
variable {w : World} {K : PySem.W.Frag} {ra : Addr} {HK : Kp} {F F' H H' : Hp} {e : Env} {σ : St}
theorem Inn.congr {a p : Addr} (h : H' a = H a) : Inn H' a p ↔ Inn H a p := by
  unfold Inn
  rw [h]
theorem Foot.congr {s : Slot} {a p : Addr} (h : H' a = H a) : Foot H' s a p ↔ Foot H s a p := by
  unfold Foot
  rw [Inn.congr h]
theorem mem_paired {α β : Type} {R : α → β → Prop} : ∀ {l : List α} {m : List β}, Paired R l m → ∀ x ∈ l, ∃ y ∈ m, R x y
  | _, _, .nil, x, h => by cases h
  | _, _, .cons r t, x, h => by
    rcases List.mem_cons.mp h with rfl | h
    · exact ⟨_, List.mem_cons_self, r⟩
    · obtain ⟨y, h1, h2⟩ := mem_paired t x h
      exact ⟨y, List.mem_cons_of_mem _ h1, h2⟩
theorem mem_paired' {α β : Type} {R : α → β → Prop} : ∀ {l : List α} {m : List β}, Paired R l m → ∀ y ∈ m, ∃ x ∈ l, R x y
  | _, _, .nil, x, h => by cases h
  | _, _, .cons r t, x, h => by
    rcases List.mem_cons.mp h with rfl | h
    · exact ⟨_, List.mem_cons_self, r⟩
    · obtain ⟨y, h1, h2⟩ := mem_paired' t x h
      exact ⟨y, List.mem_cons_of_mem _ h1, h2⟩
/-- what stands in a dict is in it -/
theorem DictAt.inn {a p : Addr} {es : List (NestedKey × V × V)} (h : DictAt w H a es) {e : NestedKey × V × V} (he : e ∈ es) (hp : e.2.2 = .ref p) : Inn H a p := by
  obtain ⟨o, h1, _, _, _, _, _, des, ep, hd, pr⟩ := h
  obtain ⟨de, m, _, _, r⟩ := mem_paired pr e he
  rw [hp] at r
  exact ⟨o, des, ep, h1, hd, de, m, r⟩
theorem objO_inj {a : Addr} {o o' : Obj} (hd : ∀ c d s, o ≠ ⟨c, d, .freed, s⟩) (h : objO a o = objO a o') : o = o' := by
  injection h with h
  have h2 := congrFun h ⟨Array.replicate (a + 1) o, {}⟩
  have h3 : Heap.get? ⟨Array.replicate (a + 1) o, {}⟩ a = some o := by
    unfold Heap.get?
    simp only [Array.getElem?_replicate, Nat.lt_succ_self, if_true]
    split
    · rename_i c d s e
      exact absurd (Option.some.inj e) (hd c d s)
    · rfl
  have h4 : Heap.get? ⟨Array.replicate (a + 1) o, {}⟩ a = some o' := by rw [← h2]; exact h3
  rw [h3] at h4
  exact Option.some.inj h4
theorem RelV.isRef {v : V} {p : Addr} (h : RelV v (Value.ref p)) : v = .ref p := by
  cases v with
  | ref a =>
    have : Value.ref p = Value.ref a := h
    injection this with e
    rw [e]
  | non => cases (show Value.ref p = _ from h)
  | bl b => cases (show Value.ref p = _ from h)
  | ty n => cases (show Value.ref p = _ from h)
  | int i => obtain ⟨t, e⟩ := h; cases e
  | str i => obtain ⟨t, e⟩ := h; cases e
  | byt i => obtain ⟨t, e⟩ := h; cases e
  | flt i => obtain ⟨t, e⟩ := h; cases e
/-- .. and nothing else -/
theorem DF.inn {a p : Addr} {es : List (NestedKey × V × V)} {o : Obj} (h : DF w a es o) (h1 : H a = some (objO a o)) (q : Inn H a p) : ∃ e ∈ es, e.2.2 = .ref p := by
  obtain ⟨_, _, _, _, _, des, ep, hd, pr⟩ := h
  obtain ⟨o', des', ep', h2, hd', de, m, r⟩ := q
  rw [h1] at h2
  have e := objO_inj (fun c d s z => by rw [z] at hd; cases hd) (Option.some.inj h2)
  subst e
  rw [hd] at hd'
  injection hd' with e1 e2
  subst e1
  obtain ⟨x, hx, _, _, rv⟩ := mem_paired' pr de m
  rw [r] at rv
  exact ⟨x, hx, RelV.isRef rv⟩
theorem RepB.mono {es : List (NestedKey × V × V)} {l : List (D × List D)} (h : RepB w K ra F H es l) (a : Same F F') (b : ∀ e ∈ es, ∀ p, e.2.2 = .ref p → H' p = H p) : RepB w K ra F' H' es l := by
  induction h with
  | nil => exact .nil
  | cons hk r hb ra' _ ih => exact .cons hk (r.mono a) ((b _ List.mem_cons_self _ rfl).trans hb) (ra'.mono a) (ih fun e he => b e (List.mem_cons_of_mem _ he))
theorem BoxAt.mono {a : Addr} {l : List (D × List D)} (h : BoxAt w K ra HK F H a l) (s : Same F F') (b : ∀ p, (p = a ∨ Inn H a p) → H' p = H p ∧ F' p = F p) : BoxAt w K ra HK F' H' a l := by
  obtain ⟨es, at_, r, nd, f⟩ := h
  have ha := (b a (.inl rfl)).1
  refine ⟨es, ?_, r.mono s fun e he p hp => (b p (.inr (at_.inn he hp))).1, nd, fun p hp => ?_⟩
  · obtain ⟨o, h1, h2⟩ := at_
    exact ⟨o, ha.trans h1, h2⟩
  · have hp' : p = a ∨ Inn H a p := hp.imp id (Inn.congr ha).mp
    obtain ⟨f1, f2, f3, f4⟩ := f p hp'
    obtain ⟨b1, b2⟩ := b p hp'
    exact ⟨b2.trans f1, f2, f3, by rw [b1]; exact f4⟩
theorem SlotOk.mono {ov : Option (Option V)} {s : Slot} (h : SlotOk w K ra HK F H ov s) (a : Same F F') (b : ∀ q, s.isC = true → ov = some (some (.ref q)) → ∀ p, Foot H s q p → H' p = H p ∧ F' p = F p) : SlotOk w K ra HK F' H' ov s := by
  cases s with
  | no => trivial
  | pin => exact h
  | box l =>
    obtain ⟨p, e1, r⟩ := h
    exact ⟨p, e1, r.mono a fun q hq => b p rfl e1 q (hq.imp id fun z => ⟨rfl, z⟩)⟩
  | val d =>
    obtain ⟨v, e1, r⟩ := h
    exact ⟨v, e1, r.mono a⟩
  | own o =>
    obtain ⟨p, e1, r, f, k, n⟩ := h
    obtain ⟨b1, b2⟩ := b p rfl e1 p (.inl rfl)
    refine ⟨p, e1, ?_, b2.trans f, k, n⟩
    cases o with
    | lst ds =>
      obtain ⟨vs, h1, h2⟩ := r
      exact ⟨vs, b1.trans h1, h2.mono a⟩
    | dct kvs =>
      obtain ⟨es, ⟨o, h1, h3⟩, h2⟩ := r
      exact ⟨es, ⟨o, b1.trans h1, h3⟩, h2.mono a⟩
theorem RowOk.mono {r : RowS} (h : RowOk ra F H r) (a : Same F F') (b : H' ra = H ra) : RowOk ra F' H' r := by
  obtain ⟨L, h1, h2⟩ := h
  exact ⟨L, b.trans h1, a _ _ h2⟩
theorem Rel.own_some (R : Rel w K ra HK F e σ H) {i : Nat} {o : OD} {p : Addr} (h : e.sl[i]? = some (.own o)) (hs : σ[i]? = some (some (.ref p))) : H p ≠ none := by
  obtain ⟨q, e1, r, _⟩ := R.sl i _ h
  rw [hs] at e1
  cases e1
  cases o with
  | lst ds =>
    obtain ⟨vs, h1, _⟩ := r
    rw [h1]
    exact fun z => by cases z
  | dct kvs =>
    obtain ⟨es, ⟨o, h1, _⟩, _⟩ := r
    rw [h1]
    exact fun z => by cases z
/-- where containers stand, nobody else stands -/
theorem Rel.foot (R : Rel w K ra HK F e σ H) {i : Nat} {s : Slot} {a p : Addr} (h : e.sl[i]? = some s) (hc : s.isC = true) (hs : σ[i]? = some (some (.ref a))) (hf : Foot H s a p) : F p = none ∧ HK.h p = none ∧ p ≠ ra ∧ H p ≠ none := by
  have ok := R.sl i s h
  cases s with
  | own o =>
    obtain ⟨q, e1, r, fa, ka, na⟩ := ok
    rw [hs] at e1
    cases e1
    rcases hf with rfl | ⟨z, _⟩
    · exact ⟨fa, ka, na, R.own_some h hs⟩
    · cases z
  | box l =>
    obtain ⟨q, e1, es, _, _, _, f⟩ := ok
    rw [hs] at e1
    cases e1
    exact f p (hf.imp id fun z => z.2)
  | _ => cases hc
theorem Sep.heap (S : Sep e σ H) (k : ∀ (i : Nat) (s : Slot) (a : Addr), e.sl[i]? = some s → s.isC = true → σ[i]? = some (some (.ref a)) → H' a = H a) : Sep e σ H' := fun i j s s' a a' p hij h1 h2 c1 c2 h3 h4 f => by
  rw [Foot.congr (k j s' a' h2 c2 h4)]
  rw [Foot.congr (k i s a h1 c1 h3)] at f
  exact S i j s s' a a' p hij h1 h2 c1 c2 h3 h4 f
theorem Rel.sep_new (R : Rel w K ra HK F e σ H) {p : Addr} (hp : H p = none) (o : HO) : Sep e σ (upd H p o) := R.sep.heap fun i s a h c hs => upd_ne fun z => (R.foot h c hs (.inl rfl)).2.2.2 (z ▸ hp)
theorem NotIn.heap {p : Addr} (N : NotIn e σ H p) (k : ∀ (i : Nat) (s : Slot) (a : Addr), e.sl[i]? = some s → s.isC = true → σ[i]? = some (some (.ref a)) → H' a = H a) : NotIn e σ H' p := fun i s a h c hs f => N i s a h c hs ((Foot.congr (k i s a h c hs)).mp f)
theorem Rel.notIn_new (R : Rel w K ra HK F e σ H) {p : Addr} (hp : H p = none) (o : HO) : NotIn e σ (upd H p o) p := fun i s a h c hs f => by
  have ne : a ≠ p := fun z => (R.foot h c hs (.inl rfl)).2.2.2 (by rw [z]; exact hp)
  exact (R.foot h c hs ((Foot.congr (upd_ne ne)).mp f)).2.2.2 hp
theorem NotIn.ne {p : Addr} (N : NotIn e σ H p) {i : Nat} {s : Slot} (h : e.sl[i]? = some s) (c : s.isC = true) : σ[i]? ≠ some (some (.ref p)) := fun z => N i s p h c z (.inl rfl)
/-- one slot changed: none of one's own any more -/
theorem Sep.off (S : Sep e σ H) {i : Nat} {s : Slot} (hc : s.isC = false) (ov : Option V) : Sep { e with sl := e.sl.set i s } (σ.set i ov) H := fun j k s1 s2 a a' p hjk h1 h2 c1 c2 h3 h4 f => by
  have out : ∀ {m : Nat} {t : Slot}, (e.sl.set i s)[m]? = some t → t.isC = true → i ≠ m := fun {m t} h c z => by
    subst z
    have hi : i < e.sl.length := by
      have := (List.getElem?_eq_some_iff.mp h).1
      rw [List.length_set] at this
      exact this
    rw [List.getElem?_set_self hi] at h
    cases h
    rw [hc] at c
    cases c
  have nj := out h1 c1
  have nk := out h2 c2
  simp only [List.getElem?_set_ne nj] at h1 h3
  simp only [List.getElem?_set_ne nk] at h2 h4
  exact S j k s1 s2 a a' p hjk h1 h2 c1 c2 h3 h4 f
theorem set_id {σ : St} {i : Nat} {ov : Option V} (h : σ[i]? = some ov) : σ.set i ov = σ := by
  apply List.ext_getElem?
  intro j
  by_cases c : i = j
  · subst c
    rw [List.getElem?_set_self (List.getElem?_eq_some_iff.mp h).1, h]
  · rw [List.getElem?_set_ne c]
/-- .. with the name as it was -/
theorem Sep.off' (S : Sep e σ H) {i : Nat} {s : Slot} (hc : s.isC = false) : Sep { e with sl := e.sl.set i s } σ H := fun j k s1 s2 a a' p hjk h1 h2 c1 c2 h3 h4 f => by
  have out : ∀ {m : Nat} {t : Slot}, (e.sl.set i s)[m]? = some t → t.isC = true → i ≠ m := fun {m t} h c z => by
    subst z
    have hi : i < e.sl.length := by
      have := (List.getElem?_eq_some_iff.mp h).1
      rw [List.length_set] at this
      exact this
    rw [List.getElem?_set_self hi] at h
    cases h
    rw [hc] at c
    cases c
  have nj := out h1 c1
  have nk := out h2 c2
  simp only [List.getElem?_set_ne nj] at h1
  simp only [List.getElem?_set_ne nk] at h2
  exact S j k s1 s2 a a' p hjk h1 h2 c1 c2 h3 h4 f
/-- one slot changed: a container that stands where no other stands -/
theorem Sep.on (S : Sep e σ H) {i : Nat} {s : Slot} {a : Addr} (hi : i < σ.length) (k : ∀ (j : Nat) (s' : Slot) (a' p : Addr), i ≠ j → e.sl[j]? = some s' → s'.isC = true → σ[j]? = some (some (.ref a')) → Foot H s a p → ¬ Foot H s' a' p) : Sep { e with sl := e.sl.set i s } (σ.set i (some (.ref a))) H := fun j l s1 s2 b b' p hjl h1 h2 c1 c2 h3 h4 f => by
  have at_ : ∀ {m : Nat} {t : Slot} {b : Addr}, i = m → (e.sl.set i s)[m]? = some t → (σ.set i (some (V.ref a)))[m]? = some (some (.ref b)) → t = s ∧ b = a := fun {m t b} z h h' => by
    subst z
    have hl : i < e.sl.length := by
      have := (List.getElem?_eq_some_iff.mp h).1
      rw [List.length_set] at this
      exact this
    rw [List.getElem?_set_self hl] at h
    rw [List.getElem?_set_self hi] at h'
    cases h
    cases h'
    exact ⟨rfl, rfl⟩
  by_cases c : i = j
  · obtain ⟨e1, e2⟩ := at_ c h1 h3
    subst e1 e2
    have n : i ≠ l := fun z => hjl (c.symm.trans z)
    simp only [List.getElem?_set_ne n] at h2 h4
    exact k l s2 b' p n h2 c2 h4 f
  · simp only [List.getElem?_set_ne c] at h1 h3
    by_cases c' : i = l
    · obtain ⟨e1, e2⟩ := at_ c' h2 h4
      subst e1 e2
      exact fun f2 => k j s1 b p c h1 c1 h3 f2 f
    · simp only [List.getElem?_set_ne c'] at h2 h4
      exact S j l s1 s2 b b' p hjl h1 h2 c1 c2 h3 h4 f
theorem Rel.ra_some (R : Rel w K ra HK F e σ H) : H ra ≠ none := by
  obtain ⟨L, h1, _⟩ := R.row
  rw [h1]
  exact fun z => by cases z
theorem same_new {p : Addr} {o : HO} (h : H p = none) : Same H (upd H p o) := fun b u q => by
  rw [upd_ne (ne_of_none q h)]
  exact q
/-- a new object, frozen at once -/
theorem Rel.alloc (R : Rel w K ra HK F e σ H) {p : Addr} (hp : H p = none) (o : HO) : Rel w K ra HK (upd F p o) e σ (upd H p o) ∧ Same F (upd F p o) := by
  have fp : F p = none := R.fh.free hp
  have sf : Same F (upd F p o) := same_new fp
  have nra : ra ≠ p := fun z => R.ra_some (z ▸ hp)
  refine ⟨⟨fun b u q => ?_, fun b u q => ?_, R.len, fun i s h => ?_, R.sep_new hp o, R.row.mono sf (upd_ne nra), by rw [upd_ne nra]; exact R.fra, R.kra, fun b hb => ⟨(R.pn b hb).1, by rw [upd_ne fun z => (R.pn b hb).1 (by rw [z]; exact R.kh.free hp)]; exact (R.pn b hb).2⟩⟩, sf⟩
  · by_cases hb : b = p
    · subst hb
      rw [upd_same] at q ⊢
      exact q
    · rw [upd_ne hb] at q ⊢
      exact R.fh b u q
  · rw [upd_ne (ne_of_none (R.kh b u q) hp)]
    exact R.kh b u q
  · refine (R.sl i s h).mono sf fun q hc e1 p' hf => ?_
    have nq : p' ≠ p := fun z => (R.foot h hc e1 hf).2.2.2 (z ▸ hp)
    exact ⟨upd_ne nq, upd_ne nq⟩
/-- a new object that nobody knows yet -/
theorem Rel.grow (R : Rel w K ra HK F e σ H) {p : Addr} (hp : H p = none) (o : HO) : Rel w K ra HK F e σ (upd H p o) := by
  have nra : ra ≠ p := fun z => R.ra_some (z ▸ hp)
  refine ⟨fun b u q => ?_, fun b u q => ?_, R.len, fun i s h => ?_, R.sep_new hp o, R.row.mono (Same.refl F) (upd_ne nra), R.fra, R.kra, R.pn⟩
  · rw [upd_ne (ne_of_none (R.fh b u q) hp)]
    exact R.fh b u q
  · rw [upd_ne (ne_of_none (R.kh b u q) hp)]
    exact R.kh b u q
  · refine (R.sl i s h).mono (Same.refl F) fun q hc e1 p' hf => ?_
    exact ⟨upd_ne fun z => (R.foot h hc e1 hf).2.2.2 (z ▸ hp), rfl⟩
end

/-! ### readings -/
/-- an exception as the mirror tells it -/
def ExIs (w : World) (K : PySem.W.Frag) (ra : Addr) (F H : Hp) (x : Exn) (cls : Value) (d : Option Addr) : Prop :=
  cls = .ref (He.ga K x.cls) ∧ ((x.fs = [] ∧ d = none) ∨ x.fs ≠ [] ∧ ∃ dd vs, d = some dd ∧ H dd = some (.xd ((x.fs.map (·.1)).zip vs)) ∧ RepA w K ra F vs (x.fs.map (·.2)) ∧ F dd = some (.xd ((x.fs.map (·.1)).zip vs)) ∧ dd ≠ ra)
def exW (w : World) (K : PySem.W.Frag) (ra : Addr) (HK : Kp) (F : Hp) (W : WX) : Exn → Env → Prop := fun x e' => ∀ cls d σ' F' H', Same F F' → Rel w K ra HK F' e' σ' H' → ExIs w K ra F' H' x cls d → W cls d σ' H'
theorem exW_mono {w : World} {K : PySem.W.Frag} {ra : Addr} {HK : Kp} {F F1 : Hp} {W : WX} (s : Same F F1) {x : Exn} {e' : Env} (h : exW w K ra HK F W x e') : exW w K ra HK F1 W x e' := fun cls d σ' F' H' s' => h cls d σ' F' H' (s.trans s')
/-- how a result of the machine (β) stands for one of the mirror (α): HK, σ, the mirror's state, F, H -/
abbrev RT (β α : Type) := World → PySem.W.Frag → Addr → Kp → St → Env → Hp → Hp → β → α → Prop
def okG {β α : Type} (T : RT β α) (w : World) (K : PySem.W.Frag) (ra : Addr) (HK : Kp) (F : Hp) (σ : St) (Q : β → Hp → Prop) : α → Env → Prop := fun a e' => ∀ b F' H', Same F F' → Rel w K ra HK F' e' σ H' → T w K ra HK σ e' F' H' b a → Q b H'
def tG {β α : Type} (T : RT β α) (w : World) (K : PySem.W.Frag) (W : WX) (m : M α) : St → Hp → (β → Hp → Prop) → Prop := fun σ H Q =>
  ∃ ra HK F e, Rel w K ra HK F e σ H ∧ (m e).wp (okG T w K ra HK F σ Q) (exW w K ra HK F W)
def TV : RT V D := fun w K ra _ _ _ F _ v d => Rep w K ra F v d
def TAs : RT (List V) (List D) := fun w K ra _ _ _ F _ v d => RepA w K ra F v d
def TB : RT Bool Bool := fun _ _ _ _ _ _ _ _ b b' => b = b'
/-- a container by its name (slot i), or a value -/
inductive Ref where
  | val (d : D) | slot (i : Nat)
def TR : RT V Ref := fun w K ra _ σ _ F _ v r => match r with
  | .val d => Rep w K ra F v d
  | .slot i => σ[i]? = some (some v)
/-- a new container that nobody else knows -/
def TO : RT V OD := fun w K ra HK σ e F H v o => ∃ a, v = .ref a ∧ RepO w K ra F H a o ∧ F a = none ∧ HK.h a = none ∧ a ≠ ra ∧ NotIn e σ H a
theorem okG_mono {β α : Type} {T : RT β α} {w : World} {K : PySem.W.Frag} {ra : Addr} {HK : Kp} {F F1 : Hp} {σ : St} {Q : β → Hp → Prop} (s : Same F F1) {a : α} {e' : Env} (h : okG T w K ra HK F σ Q a e') : okG T w K ra HK F1 σ Q a e' :=
  fun b F' H' s' => h b F' H' (s.trans s')
/-- THE STEP: a part is read, what follows is still told by the mirror -/
theorem step {β α γ : Type} {T : RT β α} {w : World} {K : PySem.W.Frag} {ra : Addr} {HK : Kp} {F H : Hp} {W : WX} {e : Env} {σ : St} {m : M α} {g : α → M γ} {A : Hp → γ → Env → Prop} {Q : β → Hp → Prop} (R : Rel w K ra HK F e σ H)
    (h : (bindM m g e).wp (A F) (exW w K ra HK F W)) (hA : ∀ F' c e', Same F F' → A F c e' → A F' c e')
    (k : ∀ F' e' a b H', Same F F' → Rel w K ra HK F' e' σ H' → T w K ra HK σ e' F' H' b a → (g a e').wp (A F') (exW w K ra HK F' W) → Q b H') : tG T w K W m σ H Q :=
  ⟨ra, HK, F, e, R, wp_mono (wp_bind.mp h) (fun a e' h' b F' H' s R' r => k F' e' a b H' s R' r (wp_mono h' (fun c e2 q => hA F' c e2 s q) fun x e2 q => exW_mono s q)) fun _ _ q => q⟩
theorem stepG {β α δ γ : Type} {T : RT β α} {T' : RT δ γ} {w : World} {K : PySem.W.Frag} {ra : Addr} {HK : Kp} {F H : Hp} {W : WX} {e : Env} {σ : St} {m : M α} {g : α → M γ} {Q' : δ → Hp → Prop} {Q : β → Hp → Prop} (R : Rel w K ra HK F e σ H)
    (h : (bindM m g e).wp (okG T' w K ra HK F σ Q') (exW w K ra HK F W))
    (k : ∀ F' e' a b H', Same F F' → Rel w K ra HK F' e' σ H' → T w K ra HK σ e' F' H' b a → (g a e').wp (okG T' w K ra HK F' σ Q') (exW w K ra HK F' W) → Q b H') : tG T w K W m σ H Q :=
  step (A := fun F => okG T' w K ra HK F σ Q') R h (fun F' c e' s q => okG_mono s q) k
/-- the last part: its value is the whole's -/
theorem last {β α : Type} {T : RT β α} {w : World} {K : PySem.W.Frag} {ra : Addr} {HK : Kp} {F H : Hp} {W : WX} {e : Env} {σ : St} {m : M α} {Q : β → Hp → Prop} (R : Rel w K ra HK F e σ H) (h : (m e).wp (okG T w K ra HK F σ Q) (exW w K ra HK F W)) : tG T w K W m σ H Q :=
  ⟨ra, HK, F, e, R, h⟩

/-! ### the judgements -/
section
variable (X : Cx) (W : WX)
def PM (e : Expr) (m : M D) : Prop := PE X e (tG TV X.w X.K W m)
def PMT (e : Expr) (m : M Bool) : Prop := PT X e (tG TB X.w X.K W m)
def PMW (e : Expr) (m : M Bool) : Prop := PW X e (tG TB X.w X.K W m)
def PMA (es : List Expr) (m : M (List D)) : Prop := PA X es (tG TAs X.w X.K W m)
def PMR (e : Expr) (m : M Ref) : Prop := PE X e (tG TR X.w X.K W m)
def PMO (e : Expr) (m : M OD) : Prop := PE X e (tG TO X.w X.K W m)
end
section
variable {X : Cx}
theorem PE.weaken {e : Expr} {t t' : TE} (h : PE X e t) (k : ∀ σ H Q, t' σ H Q → t σ H Q) : PE X e t' := ⟨fun pins s σ H Q I hw => h.run pins s σ H Q I (k σ H Q hw)⟩
theorem PT.weaken {e : Expr} {t t' : TT} (h : PT X e t) (k : ∀ σ H Q, t' σ H Q → t σ H Q) : PT X e t' := ⟨fun pins s σ H Q I hw => h.run pins s σ H Q I (k σ H Q hw)⟩
theorem PW.weaken {e : Expr} {t t' : TT} (h : PW X e t) (k : ∀ σ H Q, t' σ H Q → t σ H Q) : PW X e t' := ⟨fun wh pins s σ H Q I hw => h.run wh pins s σ H Q I (k σ H Q hw)⟩
theorem PA.weaken {es : List Expr} {t t' : TA} (h : PA X es t) (k : ∀ σ H Q, t' σ H Q → t σ H Q) : PA X es t' := ⟨fun pos pins s σ H Q I hw => h.run pos pins s σ H Q I (k σ H Q hw)⟩
theorem PS.weaken {st : Stmt} {t t' : TS} (h : PS X st t) (k : ∀ D σ H, t' D σ H → t D σ H) : PS X st t' := ⟨fun pins s σ H D I hw => h.run pins s σ H D I (k D σ H hw)⟩
theorem PSs.weaken {st : List Stmt} {t t' : TS} (h : PSs X st t) (k : ∀ D σ H, t' D σ H → t D σ H) : PSs X st t' := ⟨fun pins s σ H D I hw => h.run pins s σ H D I (k D σ H hw)⟩
end
end Mi

set_option Elab.async false
set_option linter.all false
set_option maxRecDepth 100000
set_option maxHeartbeats 2000000
/-! Mi, part B: names, constants, displays, operators. -/
namespace Mi
open PySem PySem.Spec PyProof.Rows L2

/-! ### the mirror's words -/
/-- a name's value; a container of one's own is given away (from then on nobody changes it) -/
def boxD (l : List (D × List D)) : D := .dct (l.map fun p => (p.1, .lst p.2))
def readM (i : Nat) : M D := fun e => match e.sl[i]? with
  | some (.val d) => .ok d e
  | some (.own o) => .ok o.d { e with sl := e.sl.set i (.val o.d) }
  | some (.box l) => .ok (boxD l) { e with sl := e.sl.set i (.val (boxD l)) }
  | _ => .err
def refM (i : Nat) : M Ref := fun e => match e.sl[i]? with
  | some (.val _) => .ok (.slot i) e
  | some (.own _) => .ok (.slot i) e
  | some (.box _) => .ok (.slot i) e
  | _ => .err
def mapM' {α β : Type} (m : M α) (f : α → β) : M β := bindM m fun a => pureM (f a)
def derefM (r : Ref) : M D := match r with
  | .val d => pureM d
  | .slot i => fun e => match e.sl[i]? with
    | some (.val d) => .ok d e
    | some (.own o) => .ok o.d e
    | _ => .err

section
variable {w : World} {K : PySem.W.Frag} {ra : Addr} {HK : Kp} {F H : Hp} {e : Env} {σ : St}
/-- an owned container is given away -/
theorem Rel.freeze (R : Rel w K ra HK F e σ H) {i : Nat} {o : OD} (h : e.sl[i]? = some (.own o)) :
    ∃ F' a, σ[i]? = some (some (.ref a)) ∧ Same F F' ∧ Rep w K ra F' (.ref a) o.d ∧ Rel w K ra HK F' { e with sl := e.sl.set i (.val o.d) } σ H := by
  obtain ⟨a, e1, r, fa, ka, na⟩ := R.sl i _ h
  have hi : i < e.sl.length := (List.getElem?_eq_some_iff.mp h).1
  obtain ⟨u, hu, rep⟩ : ∃ u, H a = some u ∧ ∀ F', Same F F' → F' a = some u → Rep w K ra F' (.ref a) o.d := by
    cases o with
    | lst ds =>
      obtain ⟨vs, h1, h2⟩ := r
      exact ⟨_, h1, fun F' s q => .lst q (h2.mono s)⟩
    | dct kvs =>
      obtain ⟨es, ⟨o, h1, h3⟩, h2⟩ := r
      exact ⟨_, h1, fun F' s q => .dct ⟨o, q, h3⟩ (h2.mono s)⟩
  have sf : Same F (upd F a u) := same_new fa
  have rp := rep _ sf upd_same
  refine ⟨upd F a u, a, e1, sf, rp, ⟨fun b z q => ?_, R.kh, by rw [List.length_set]; exact R.len, fun j s hj => ?_, R.sep.off' rfl, R.row.mono sf rfl, by rw [upd_ne (Ne.symm na)]; exact R.fra, R.kra, fun b hb => ⟨(R.pn b hb).1, by rw [upd_ne fun z => (R.pn b hb).1 (by rw [z]; exact ka)]; exact (R.pn b hb).2⟩⟩⟩
  · by_cases hb : b = a
    · subst hb
      rw [upd_same] at q
      cases q
      exact hu
    · rw [upd_ne hb] at q
      exact R.fh b z q
  · by_cases hj2 : i = j
    · subst hj2
      rw [List.getElem?_set_self hi] at hj
      cases hj
      exact ⟨_, e1, rp⟩
    · rw [List.getElem?_set_ne hj2] at hj
      refine (R.sl j s hj).mono sf fun q hc eq p hf => ?_
      have : p ≠ a := fun z => R.sep i j _ s a q p hj2 h hj rfl hc e1 eq (.inl z) hf
      exact ⟨rfl, upd_ne this⟩
/-- .. a dict of lists, with all its lists -/
theorem Rel.freezeB (R : Rel w K ra HK F e σ H) {i : Nat} {l : List (D × List D)} (h : e.sl[i]? = some (.box l)) :
    ∃ F' a, σ[i]? = some (some (.ref a)) ∧ Same F F' ∧ Rep w K ra F' (.ref a) (boxD l) ∧ Rel w K ra HK F' { e with sl := e.sl.set i (.val (boxD l)) } σ H := by
  classical
  obtain ⟨a, e1, es, at_, rb, nd, f⟩ := R.sl i _ h
  have hi : i < e.sl.length := (List.getElem?_eq_some_iff.mp h).1
  have ft : ∀ p, Foot H (.box l) a p → p = a ∨ Inn H a p := fun p hp => hp.imp id fun z => z.2
  have tf : ∀ p, p = a ∨ Inn H a p → Foot H (.box l) a p := fun p hp => hp.imp id fun z => ⟨rfl, z⟩
  let F' : Hp := fun p => if Foot H (.box l) a p then H p else F p
  have Fi : ∀ p, Foot H (.box l) a p → F' p = H p := fun p hp => if_pos hp
  have Fo : ∀ p, ¬ Foot H (.box l) a p → F' p = F p := fun p hp => if_neg hp
  have sf : Same F F' := fun b z q => by
    rw [Fo b fun z => by rw [(f b (ft b z)).1] at q; cases q]
    exact q
  have rp : Rep w K ra F' (.ref a) (boxD l) := by
    refine .dct (es := es) ?_ ?_
    · obtain ⟨o, h1, h2⟩ := at_
      exact ⟨o, (Fi a (.inl rfl)).trans h1, h2⟩
    · have key : ∀ {es : List (NestedKey × V × V)} {l : List (D × List D)}, RepB w K ra F H es l → (∀ e ∈ es, ∀ p, e.2.2 = .ref p → F' p = H p) → RepE w K ra F' es (l.map fun p => (p.1, D.lst p.2)) := by
        intro es l rb
        induction rb with
        | nil => exact fun _ => .nil
        | cons hk r hb ra' _ ih => exact fun k => .cons hk (r.mono sf) (.lst ((k _ List.mem_cons_self _ rfl).trans hb) (ra'.mono sf)) (ih fun e he => k e (List.mem_cons_of_mem _ he))
      exact key rb fun e he p hp => Fi p (tf p (.inr (at_.inn he hp)))
  refine ⟨F', a, e1, sf, rp, ⟨fun b z q => ?_, R.kh, by rw [List.length_set]; exact R.len, fun j s hj => ?_, R.sep.off' rfl, R.row.mono sf rfl, ?_, R.kra, fun b hb => ⟨(R.pn b hb).1, ?_⟩⟩⟩
  · by_cases hb : Foot H (.box l) a b
    · rw [Fi b hb] at q
      exact q
    · rw [Fo b hb] at q
      exact R.fh b z q
  · by_cases hj2 : i = j
    · subst hj2
      rw [List.getElem?_set_self hi] at hj
      cases hj
      exact ⟨_, e1, rp⟩
    · rw [List.getElem?_set_ne hj2] at hj
      exact (R.sl j s hj).mono sf fun q hc eq p hf => ⟨rfl, Fo p fun z => R.sep i j _ s a q p hj2 h hj rfl hc e1 eq z hf⟩
  · rw [Fo ra fun z => (f ra (ft ra z)).2.2.1 rfl]
    exact R.fra
  · rw [Fo b fun z => (R.pn b hb).1 (f b (ft b z)).2.1]
    exact (R.pn b hb).2
end

section
variable {X : Cx} {W : WX}
/-! ### names, constants -/
theorem pm_var (i : Nat) {x : Str} {pos : Pos} (hN : X.N[i]? = some x := by rfl) (hv : Vis X.env.scope x := by first | exact Or.inl rfl | exact Or.inr (Or.inl rfl) | exact Or.inr (Or.inr rfl)) (hd : (x == ("__debug__" : Str)) = false := by decide)
    (hcd : (x == ("__classdict__" : Str)) = false := by decide) : PM X W (.Name x pos) (readM i) := by
  refine PE.weaken (pe_var hN hv hd hcd) ?_
  rintro σ H Q ⟨ra, HK, F, e, R, h⟩
  unfold readM at h
  cases q : e.sl[i]? with
  | none =>
    rw [q] at h
    exact h.elim
  | some s =>
    rw [q] at h
    cases s with
    | no => exact h.elim
    | pin => exact h.elim
    | val d =>
      obtain ⟨v, e1, r⟩ := R.sl i _ q
      exact ⟨v, e1, h v F H (Same.refl F) R r⟩
    | own o =>
      obtain ⟨F', a, e1, s, rp, R'⟩ := R.freeze q
      exact ⟨_, e1, h _ F' H s R' rp⟩
    | box l =>
      obtain ⟨F', a, e1, s, rp, R'⟩ := R.freezeB q
      exact ⟨_, e1, h _ F' H s R' rp⟩
theorem pm_ref (i : Nat) {x : Str} {pos : Pos} (hN : X.N[i]? = some x := by rfl) (hv : Vis X.env.scope x := by first | exact Or.inl rfl | exact Or.inr (Or.inl rfl) | exact Or.inr (Or.inr rfl)) (hd : (x == ("__debug__" : Str)) = false := by decide)
    (hcd : (x == ("__classdict__" : Str)) = false := by decide) : PMR X W (.Name x pos) (refM i) := by
  refine PE.weaken (pe_var hN hv hd hcd) ?_
  rintro σ H Q ⟨ra, HK, F, e, R, h⟩
  unfold refM at h
  cases q : e.sl[i]? with
  | none =>
    rw [q] at h
    exact h.elim
  | some s =>
    rw [q] at h
    cases s with
    | no => exact h.elim
    | pin => exact h.elim
    | val d =>
      obtain ⟨v, e1, r⟩ := R.sl i _ q
      exact ⟨v, e1, h v F H (Same.refl F) R e1⟩
    | own o =>
      obtain ⟨a, e1, r, _⟩ := R.sl i _ q
      exact ⟨_, e1, h _ F H (Same.refl F) R e1⟩
    | box o =>
      obtain ⟨a, e1, r⟩ := R.sl i _ q
      exact ⟨_, e1, h _ F H (Same.refl F) R e1⟩
/-- any value as a container -/
theorem pm_toRef {e : Expr} {m : M D} (h : PM X W e m) : PMR X W e (mapM' m Ref.val) := by
  refine PE.weaken h ?_
  rintro σ H Q ⟨ra, HK, F, e, R, hw⟩
  unfold mapM' at hw
  refine stepG R hw fun F' e' d v H' s R' r q => ?_
  exact q v F' H' (Same.refl F') R' r
theorem tG_const {v : V} {d : D} (hr : ∀ w K ra F, Rep w K ra F v d) {σ : St} {H : Hp} {Q : VK} (h : tG TV X.w X.K W (pureM d) σ H Q) : Q v H := by
  obtain ⟨ra, HK, F, e, R, h⟩ := h
  exact h v F H (Same.refl F) R (hr _ _ _ _)
theorem pm_int {i : Int} {j pos} : PM X W (.Constant (.int i) j pos) (pureM (.int i)) := PE.weaken pe_int fun _ _ _ h => tG_const (fun _ _ _ _ => .int i) h
theorem pm_bl {b : Bool} {j pos} : PM X W (.Constant (.bool b) j pos) (pureM (.bl b)) := PE.weaken pe_bl fun _ _ _ h => tG_const (fun _ _ _ _ => .bl b) h
theorem pm_non {j pos} : PM X W (.Constant .none j pos) (pureM .non) := PE.weaken pe_non fun _ _ _ h => tG_const (fun _ _ _ _ => .non) h
theorem pm_str {x : Str} {j pos} : PM X W (.Constant (.str x) j pos) (pureM (.str x)) := PE.weaken pe_str fun _ _ _ h => tG_const (fun _ _ _ _ => .str x) h
/-- a module's constant -/
theorem pm_gint {x : Str} {i : Int} {pos : Pos} (hm : ∃ t, X.mg x = some (.int i t)) (hg : Gl X x := by rfl) (hd : (x == ("__debug__" : Str)) = false := by decide) : PM X W (.Name x pos) (pureM (.int i)) :=
  let ⟨t, hm⟩ := hm
  PE.weaken (pe_glob (v := .int i) hg hm ⟨t, rfl⟩ hd) fun _ _ _ h => tG_const (fun _ _ _ _ => .int i) h
theorem pm_gstr {x z : Str} {pos : Pos} (hm : ∃ t, X.mg x = some (.str z t)) (hg : Gl X x := by rfl) (hd : (x == ("__debug__" : Str)) = false := by decide) : PM X W (.Name x pos) (pureM (.str z)) :=
  let ⟨t, hm⟩ := hm
  PE.weaken (pe_glob (v := .str z) hg hm ⟨t, rfl⟩ hd) fun _ _ _ h => tG_const (fun _ _ _ _ => .str z) h
/-- a constant tuple of the module -/
theorem pm_gtup {x : Str} {d : D} {a : Addr} {pos : Pos} (hm : X.mg x = some (.ref a)) (hr : ∀ w ra F, Rep w X.K ra F (.ref a) d) (hg : Gl X x := by rfl) (hd : (x == ("__debug__" : Str)) = false := by decide) : PM X W (.Name x pos) (pureM d) :=
  PE.weaken (pe_glob (v := .ref a) hg hm rfl hd) fun σ H Q h => by
    obtain ⟨ra, HK, F, e, R, h⟩ := h
    exact h _ F H (Same.refl F) R (hr _ _ _)

/-! ### argument lists -/
theorem pma_nil : PMA X W [] (pureM []) := PA.weaken pa_nil fun σ H Q h => by
  obtain ⟨ra, HK, F, e, R, h⟩ := h
  exact h [] F H (Same.refl F) R .nil
def consM (m : M D) (r : M (List D)) : M (List D) := bindM m fun d => bindM r fun ds => pureM (d :: ds)
theorem pma_cons {e : Expr} {es : List Expr} {m : M D} {r : M (List D)} (ha : PM X W e m) (hr : PMA X W es r) (hs : starEach (e :: es) X.env = (false, eval e X.env) :: starEach es X.env := by rfl) : PMA X W (e :: es) (consM m r) := by
  refine PA.weaken (pa_cons ha hr hs) ?_
  rintro σ H Q ⟨ra, HK, F, e, R, h⟩
  unfold consM at h
  refine stepG R h fun F1 e1 d v H1 s1 R1 r1 q1 => ?_
  refine stepG R1 q1 fun F2 e2 ds vs H2 s2 R2 r2 q2 => ?_
  exact q2 _ F2 H2 (Same.refl F2) R2 (.cons (Rep.mono s2 r1) r2)
/-- the items of a tuple or a list -/
def D.items : D → Option (List D)
  | .tup l => some l
  | .lst l => some l
  | _ => none
def starM (m : M Ref) (r : M (List D)) : M (List D) := bindM m fun x => bindM (derefM x) fun d => match d.items with
  | some xs => bindM r fun ds => pureM (xs ++ ds)
  | none => errM
/-- what a container is, when it is used -/
inductive Held (w : World) (K : PySem.W.Frag) (ra : Addr) (F H : Hp) : V → D → Prop
  | val {v : V} {d : D} : Rep w K ra F v d → Held w K ra F H v d
  | own {a : Addr} {o : OD} : RepO w K ra F H a o → F a = none → a ≠ ra → Held w K ra F H (.ref a) o.d
theorem Rel.deref {w : World} {K : PySem.W.Frag} {ra : Addr} {HK : Kp} {F H : Hp} {e : Env} {σ : St} (R : Rel w K ra HK F e σ H) {v : V} {r : Ref} (t : TR w K ra HK σ e F H v r) {α : Type} {g : D → M α} {A : α → Env → Prop} {B : Exn → Env → Prop}
    (h : (bindM (derefM r) g e).wp A B) : ∃ d, Held w K ra F H v d ∧ (g d e).wp A B ∧ derefM r e = .ok d e := by
  cases r with
  | val d => exact ⟨d, .val t, h, rfl⟩
  | slot i =>
    have t' : σ[i]? = some (some v) := t
    unfold bindM derefM at h
    simp only at h
    cases q : e.sl[i]? with
    | none =>
      rw [q] at h
      exact h.elim
    | some s =>
      rw [q] at h
      cases s with
      | no => exact h.elim
      | pin => exact h.elim
      | box _ => exact h.elim
      | val d =>
        obtain ⟨v', e1, rp⟩ := R.sl i _ q
        rw [t'] at e1
        cases e1
        exact ⟨d, .val rp, h, by unfold derefM; simp only [q]⟩
      | own o =>
        obtain ⟨a, e1, rp, fa, ka, na⟩ := R.sl i _ q
        rw [t'] at e1
        cases e1
        exact ⟨o.d, .own rp fa na, h, by unfold derefM; simp only [q]⟩
theorem Held.lst {w : World} {K : PySem.W.Frag} {ra : Addr} {F H : Hp} (fh : Same F H) {v : V} {ds : List D} (h : Held w K ra F H v (.lst ds)) : ∃ a vs, v = .ref a ∧ H a = some (.lst vs) ∧ RepA w K ra F vs ds := by
  generalize e : D.lst ds = d at h
  cases h with
  | val r =>
    subst e
    cases r with
    | lst h1 h2 => exact ⟨_, _, rfl, fh _ _ h1, h2⟩
  | @own a o r _ _ =>
    cases o with
    | lst l =>
      cases e
      obtain ⟨vs, h1, h2⟩ := r
      exact ⟨_, _, rfl, h1, h2⟩
    | dct l => cases e
theorem Held.tup {w : World} {K : PySem.W.Frag} {ra : Addr} {F H : Hp} (fh : Same F H) {v : V} {ds : List D} (h : Held w K ra F H v (.tup ds)) : ∃ a vs, v = .ref a ∧ SqT K H a vs ∧ RepA w K ra F vs ds := by
  generalize e : D.tup ds = d at h
  cases h with
  | val r =>
    subst e
    cases r with
    | tup h1 h2 => exact ⟨_, _, rfl, Same.seqT fh h1, h2⟩
  | @own a o r _ _ => cases o <;> cases e
theorem Held.dct {w : World} {K : PySem.W.Frag} {ra : Addr} {F H : Hp} (fh : Same F H) {v : V} {kvs : List (D × D)} (h : Held w K ra F H v (.dct kvs)) : ∃ a es, v = .ref a ∧ DictAt w H a es ∧ RepE w K ra F es kvs := by
  generalize e : D.dct kvs = d at h
  cases h with
  | val r =>
    subst e
    cases r with
    | dct h1 h2 => exact ⟨_, _, rfl, h1.mono fh, h2⟩
  | @own a o r _ _ =>
    cases o with
    | dct l =>
      cases e
      obtain ⟨es, h1, h2⟩ := r
      exact ⟨_, _, rfl, h1, h2⟩
    | lst l => cases e
theorem pma_star {e : Expr} {es : List Expr} {p : Pos} {m : M Ref} {r : M (List D)} (ha : PMR X W e m) (hr : PMA X W es r) (hs : starEach (.Starred e p :: es) X.env = (true, eval e X.env) :: starEach es X.env := by rfl) : PMA X W (.Starred e p :: es) (starM m r) := by
  refine PA.weaken (StX.pa_star ha hr hs) ?_
  rintro σ H Q ⟨ra, HK, F, e, R, h⟩
  unfold starM at h
  refine stepG R h fun F1 e1 x v H1 s1 R1 r1 q1 => ?_
  obtain ⟨d, hd, q2, _⟩ := R1.deref r1 q1
  cases d with
  | tup xs =>
    obtain ⟨a, vs, rfl, h1, h2⟩ := hd.tup R1.fh
    refine ⟨a, vs, rfl, .inl h1, ?_⟩
    refine stepG (g := fun ds => pureM (xs ++ ds)) R1 q2 fun F2 e2 ds us H2 s2 R2 r2 q3 => ?_
    exact q3 _ F2 H2 (Same.refl F2) R2 ((RepA.mono s2 h2).append r2)
  | lst xs =>
    obtain ⟨a, vs, rfl, h1, h2⟩ := hd.lst R1.fh
    refine ⟨a, vs, rfl, .inr (.of h1), ?_⟩
    refine stepG (g := fun ds => pureM (xs ++ ds)) R1 q2 fun F2 e2 ds us H2 s2 R2 r2 q3 => ?_
    exact q3 _ F2 H2 (Same.refl F2) R2 ((RepA.mono s2 h2).append r2)
  | _ => exact q2.elim

/-! ### displays -/
def small {α : Type} (l : List α) : M Unit := fun e => if l.length ≤ 1000000 then .ok () e else .err
theorem wp_small {α β : Type} {l : List α} {g : M β} {e : Env} {A : β → Env → Prop} {B : Exn → Env → Prop} (h : (bindM (small l) (fun _ => g) e).wp A B) : l.length ≤ sizeLine ∧ (g e).wp A B := by
  unfold bindM small at h
  by_cases q : l.length ≤ 1000000
  · simp only [if_pos q] at h
    exact ⟨Nat.le_trans q (by decide), h⟩
  · simp only [if_neg q] at h
    exact h.elim
def tupM (r : M (List D)) : M D := bindM r fun ds => bindM (small ds) fun _ => pureM (.tup ds)
theorem pm_tup {es : List Expr} {k : Nat} {pos : Pos} {r : M (List D)} (h : PMA X W es r) : PM X W (.Tuple es k pos) (tupM r) := by
  refine PE.weaken (pe_tup h) ?_
  rintro σ H Q ⟨ra, HK, F, e, R, h⟩
  unfold tupM at h
  refine stepG R h fun F1 e1 ds vs H1 s1 R1 r1 q1 => ?_
  obtain ⟨hz, q2⟩ := wp_small q1
  have r1' : RepA X.w X.K ra F1 vs ds := r1
  refine ⟨by rw [r1'.length]; exact hz, fun p hp => ?_⟩
  obtain ⟨R2, s2⟩ := R1.alloc hp (.tup vs)
  exact q2 _ _ _ s2 R2 (.tup (.of upd_same) (RepA.mono s2 r1'))
/-- a new container, known to nobody -/
theorem fresh_own {w : World} {K : PySem.W.Frag} {ra : Addr} {HK : Kp} {F H : Hp} {e : Env} {σ : St} (R : Rel w K ra HK F e σ H) {p : Addr} (hp : H p = none) {o : OD} (r : RepO w K ra F (upd H p (match o with
    | .lst _ => .lst []
    | .dct _ => .lst [])) p o ∨ True) : F p = none ∧ HK.h p = none ∧ p ≠ ra ∧ ∀ {u : HO}, NotIn e σ (upd H p u) p :=
  ⟨R.fh.free hp, R.kh.free hp, fun z => R.ra_some (z ▸ hp), R.notIn_new hp _⟩
def lstM (r : M (List D)) : M OD := bindM r fun ds => bindM (small ds) fun _ => pureM (.lst ds)
theorem pmo_lst {es : List Expr} {pos : Pos} {r : M (List D)} (h : PMA X W es r) : PMO X W (.List es pos) (lstM r) := by
  refine PE.weaken (pe_lst h) ?_
  rintro σ H Q ⟨ra, HK, F, e, R, h⟩
  unfold lstM at h
  refine stepG R h fun F1 e1 ds vs H1 s1 R1 r1 q1 => ?_
  obtain ⟨hz, q2⟩ := wp_small q1
  have r1' : RepA X.w X.K ra F1 vs ds := r1
  refine ⟨by rw [r1'.length]; exact hz, fun p hp => ?_⟩
  obtain ⟨f1, f2, f3, f4⟩ := fresh_own R1 hp (o := .lst ds) (.inr trivial)
  exact q2 _ _ _ (Same.refl F1) (R1.grow hp _) ⟨p, rfl, ⟨vs, upd_same, r1'⟩, f1, f2, f3, f4⟩
/-- a new container, given away at once -/
def giveM (m : M OD) : M D := mapM' m OD.d
theorem Rel.give {w : World} {K : PySem.W.Frag} {ra : Addr} {HK : Kp} {F H : Hp} {e : Env} {σ : St} (R : Rel w K ra HK F e σ H) {v : V} {o : OD} (t : TO w K ra HK σ e F H v o) : ∃ F', Same F F' ∧ Rep w K ra F' v o.d ∧ Rel w K ra HK F' e σ H := by
  obtain ⟨a, rfl, r, fa, ka, na, nd⟩ := t
  obtain ⟨u, hu, rep⟩ : ∃ u, H a = some u ∧ ∀ F', Same F F' → F' a = some u → Rep w K ra F' (.ref a) o.d := by
    cases o with
    | lst ds =>
      obtain ⟨vs, h1, h2⟩ := r
      exact ⟨_, h1, fun F' s q => .lst q (h2.mono s)⟩
    | dct kvs =>
      obtain ⟨es, ⟨o, h1, h3⟩, h2⟩ := r
      exact ⟨_, h1, fun F' s q => .dct ⟨o, q, h3⟩ (h2.mono s)⟩
  have sf : Same F (upd F a u) := same_new fa
  refine ⟨upd F a u, sf, rep _ sf upd_same, ⟨fun b z q => ?_, R.kh, R.len, fun j s hj => ?_, R.sep, R.row.mono sf rfl, by rw [upd_ne (Ne.symm na)]; exact R.fra, R.kra, fun b hb => ⟨(R.pn b hb).1, by rw [upd_ne fun z => (R.pn b hb).1 (by rw [z]; exact ka)]; exact (R.pn b hb).2⟩⟩⟩
  · by_cases hb : b = a
    · subst hb
      rw [upd_same] at q
      cases q
      exact hu
    · rw [upd_ne hb] at q
      exact R.fh b z q
  · exact (R.sl j s hj).mono sf fun q hc eq p hf => ⟨rfl, upd_ne fun z => nd j s q hj hc eq (z ▸ hf)⟩
theorem pm_give {e : Expr} {m : M OD} (h : PMO X W e m) : PM X W e (giveM m) := by
  refine PE.weaken h ?_
  rintro σ H Q ⟨ra, HK, F, e, R, hw⟩
  unfold giveM mapM' at hw
  refine stepG R hw fun F1 e1 o v H1 s1 R1 r1 q1 => ?_
  obtain ⟨F2, s2, rp, R2⟩ := R1.give r1
  exact q1 v F2 H1 s2 R2 rp
end
end Mi

set_option Elab.async false
set_option linter.all false
set_option maxRecDepth 100000
set_option maxHeartbeats 2000000
/-! Mi, part C: equality, comparisons, arithmetic. -/
namespace Mi
open PySem PySem.Spec PyProof.Rows L2

/-! ### data are equal -/
mutual
def D.beq : D → D → Bool
  | .non, e => match e with | .non => true | _ => false
  | .bl b, e => match e with | .bl c => b == c | _ => false
  | .int i, e => match e with | .int j => decide (i = j) | _ => false
  | .str x, e => match e with | .str y => decide (x = y) | _ => false
  | .tup l, e => match e with | .tup m => D.beqs l m | _ => false
  | .lst l, e => match e with | .lst m => D.beqs l m | _ => false
  | .dct l, e => match e with | .dct m => D.beqp l m | _ => false
  | .obj l, e => match e with | .obj m => D.beqs l m | _ => false
  | .row, e => match e with | .row => true | _ => false
  | .exn c ns l, e => match e with | .exn c' ns' m => decide (c = c') && (decide (ns = ns') && D.beqs l m) | _ => false
def D.beqs : List D → List D → Bool
  | [], m => match m with | [] => true | _ => false
  | x :: xs, m => match m with | y :: ys => D.beq x y && D.beqs xs ys | [] => false
def D.beqp : List (D × D) → List (D × D) → Bool
  | [], m => match m with | [] => true | _ => false
  | (x, x') :: xs, m => match m with | (y, y') :: ys => D.beq x y && (D.beq x' y' && D.beqp xs ys) | [] => false
end
mutual
theorem D.beq_self : ∀ d : D, D.beq d d = true
  | .non => rfl
  | .bl b => by simp [D.beq]
  | .int i => by simp [D.beq]
  | .str x => by simp [D.beq]
  | .tup l => by rw [D.beq]; exact D.beqs_self l
  | .lst l => by rw [D.beq]; exact D.beqs_self l
  | .dct l => by rw [D.beq]; exact D.beqp_self l
  | .obj l => by rw [D.beq]; exact D.beqs_self l
  | .row => rfl
  | .exn c ns l => by rw [D.beq, decide_eq_true rfl, decide_eq_true rfl]; exact D.beqs_self l
theorem D.beqs_self : ∀ l : List D, D.beqs l l = true
  | [] => rfl
  | x :: xs => by rw [D.beqs, D.beq_self x, D.beqs_self xs]; rfl
theorem D.beqp_self : ∀ l : List (D × D), D.beqp l l = true
  | [] => rfl
  | (x, y) :: xs => by rw [D.beqp, D.beq_self x, D.beq_self y, D.beqp_self xs]; rfl
end
mutual
theorem D.eq_of_beq : ∀ d e : D, D.beq d e = true → d = e
  | .non, e, h => by cases e <;> simp [D.beq] at h ⊢
  | .bl b, e, h => by cases e <;> simp [D.beq] at h ⊢; exact h
  | .int i, e, h => by cases e <;> simp [D.beq] at h ⊢; exact h
  | .str x, e, h => by cases e <;> simp [D.beq] at h ⊢; exact h
  | .tup l, e, h => by cases e <;> simp only [D.beq] at h <;> first | (cases h; done) | exact congrArg _ (D.eq_of_beqs _ _ h)
  | .lst l, e, h => by cases e <;> simp only [D.beq] at h <;> first | (cases h; done) | exact congrArg _ (D.eq_of_beqs _ _ h)
  | .dct l, e, h => by cases e <;> simp only [D.beq] at h <;> first | (cases h; done) | exact congrArg _ (D.eq_of_beqp _ _ h)
  | .obj l, e, h => by cases e <;> simp only [D.beq] at h <;> first | (cases h; done) | exact congrArg _ (D.eq_of_beqs _ _ h)
  | .row, e, h => by cases e <;> simp [D.beq] at h ⊢
  | .exn c ns l, e, h => by
    cases e <;> simp only [D.beq] at h <;> first | (cases h; done) | skip
    rename_i c' ns' m
    rw [Bool.and_eq_true, Bool.and_eq_true] at h
    rw [of_decide_eq_true h.1, of_decide_eq_true h.2.1, D.eq_of_beqs _ _ h.2.2]
theorem D.eq_of_beqs : ∀ l m : List D, D.beqs l m = true → l = m
  | [], m, h => by cases m <;> simp [D.beqs] at h ⊢
  | x :: xs, m, h => by
    cases m with
    | nil => simp [D.beqs] at h
    | cons y ys =>
      simp only [D.beqs, Bool.and_eq_true] at h
      rw [D.eq_of_beq x y h.1, D.eq_of_beqs xs ys h.2]
theorem D.eq_of_beqp : ∀ l m : List (D × D), D.beqp l m = true → l = m
  | [], m, h => by cases m <;> simp [D.beqp] at h ⊢
  | (x, x') :: xs, m, h => by
    cases m with
    | nil => simp [D.beqp] at h
    | cons y ys =>
      obtain ⟨y, y'⟩ := y
      simp only [D.beqp, Bool.and_eq_true] at h
      rw [D.eq_of_beq x y h.1, D.eq_of_beq x' y' h.2.1, D.eq_of_beqp xs ys h.2.2]
end
instance : DecidableEq D := fun a b => if h : D.beq a b = true then .isTrue (D.eq_of_beq a b h) else .isFalse fun e => h (e ▸ D.beq_self a)

/-! ### Python's == -/
mutual
/-- == of data without dicts and objects (True == 1) -/
def D.eqv : D → D → Bool
  | .non, e => match e with | .non => true | _ => false
  | .bl a, e => match e with | .bl b => a == b | .int j => (if a then 1 else 0) == j | _ => false
  | .int i, e => match e with | .bl b => i == (if b then 1 else 0) | .int j => i == j | _ => false
  | .str x, e => match e with | .str y => x == y | _ => false
  | .lst l, e => match e with | .lst m => D.eqvs l m | _ => false
  | .tup l, e => match e with | .tup m => D.eqvs l m | _ => false
  | .dct _, _ => false
  | .obj _, _ => false
  | .row, _ => false
  | .exn _ _ _, _ => false
def D.eqvs : List D → List D → Bool
  | [], m => match m with | [] => true | _ => false
  | x :: xs, m => match m with | y :: ys => D.eqv x y && D.eqvs xs ys | [] => false
end
mutual
/-- data without dicts and objects, to a depth -/
def D.plain : Nat → D → Bool
  | _, .non => true
  | _, .bl _ => true
  | _, .int _ => true
  | _, .str x => PyData.canLay0 (.str x)
  | n, .lst l => match n with | 0 => false | n + 1 => D.plains n l
  | n, .tup l => match n with | 0 => false | n + 1 => D.plains n l
  | _, .dct _ => false
  | _, .obj _ => false
  | _, .row => false
  | _, .exn _ _ _ => false
def D.plains : Nat → List D → Bool
  | _, [] => true
  | n, x :: xs => D.plain n x && D.plains n xs
end
mutual
def D.pd : D → PyData
  | .non => .none
  | .bl b => .bool b
  | .int i => .int i
  | .str x => .str x
  | .lst l => .list (D.pds l)
  | .tup l => .tuple (D.pds l)
  | .dct _ => .none
  | .obj _ => .none
  | .row => .none
  | .exn _ _ _ => .none
def D.pds : List D → List PyData
  | [] => []
  | x :: xs => D.pd x :: D.pds xs
end
mutual
theorem eqv_pd : ∀ (d e : D) (n m : Nat), d.plain n = true → e.plain m = true → PyData.eqv d.pd e.pd = d.eqv e
  | .non, e, n, m, h, h' => by cases e <;> simp_all [D.plain, D.pd, D.eqv, PyData.eqv]
  | .bl a, e, n, m, h, h' => by cases e <;> simp_all [D.plain, D.pd, D.eqv, PyData.eqv]
  | .int a, e, n, m, h, h' => by cases e <;> simp_all [D.plain, D.pd, D.eqv, PyData.eqv]
  | .str a, e, n, m, h, h' => by cases e <;> simp_all [D.plain, D.pd, D.eqv, PyData.eqv]
  | .lst l, e, n, m, h, h' => by
    cases e with
    | lst l' =>
      cases n with
      | zero => simp [D.plain] at h
      | succ n =>
        cases m with
        | zero => simp [D.plain] at h'
        | succ m =>
          simp only [D.plain] at h h'
          simp only [D.pd, D.eqv, PyData.eqv]
          exact eqv_pds l l' n m h h'
    | _ => simp_all [D.plain, D.pd, D.eqv, PyData.eqv]
  | .tup l, e, n, m, h, h' => by
    cases e with
    | tup l' =>
      cases n with
      | zero => simp [D.plain] at h
      | succ n =>
        cases m with
        | zero => simp [D.plain] at h'
        | succ m =>
          simp only [D.plain] at h h'
          simp only [D.pd, D.eqv, PyData.eqv]
          exact eqv_pds l l' n m h h'
    | _ => simp_all [D.plain, D.pd, D.eqv, PyData.eqv]
  | .dct _, _, _, _, h, _ => by simp [D.plain] at h
  | .obj _, _, _, _, h, _ => by simp [D.plain] at h
  | .row, _, _, _, h, _ => by simp [D.plain] at h
  | .exn _ _ _, _, _, _, h, _ => by simp [D.plain] at h
theorem eqv_pds : ∀ (l m : List D) (n k : Nat), D.plains n l = true → D.plains k m = true → PyData.eqvAll (D.pds l) (D.pds m) = D.eqvs l m
  | [], m, n, k, h, h' => by cases m <;> simp [D.pds, D.eqvs, PyData.eqvAll]
  | x :: xs, m, n, k, h, h' => by
    cases m with
    | nil => simp [D.pds, D.eqvs, PyData.eqvAll]
    | cons y ys =>
      simp only [D.plains, Bool.and_eq_true] at h h'
      simp only [D.pds, D.eqvs, PyData.eqvAll]
      rw [eqv_pd x y n k h.1 h'.1, eqv_pds xs ys n k h.2 h'.2]
end
mutual
theorem plain_lay : ∀ (d : D) (n : Nat), d.plain n = true → d.pd.canLay0 = true ∧ d.pd.depth ≤ n
  | .non, n, _ => ⟨rfl, Nat.zero_le _⟩
  | .bl _, n, _ => ⟨rfl, Nat.zero_le _⟩
  | .int _, n, _ => ⟨rfl, Nat.zero_le _⟩
  | .str x, n, h => ⟨h, Nat.zero_le _⟩
  | .lst l, n, h => by
    cases n with
    | zero => simp [D.plain] at h
    | succ n =>
      simp only [D.plain] at h
      obtain ⟨h1, h2⟩ := plains_lay l n h
      exact ⟨by simpa only [D.pd, PyData.canLay0] using h1, by simpa only [D.pd, PyData.depth] using Nat.succ_le_succ h2⟩
  | .tup l, n, h => by
    cases n with
    | zero => simp [D.plain] at h
    | succ n =>
      simp only [D.plain] at h
      obtain ⟨h1, h2⟩ := plains_lay l n h
      exact ⟨by simpa only [D.pd, PyData.canLay0] using h1, by simpa only [D.pd, PyData.depth] using Nat.succ_le_succ h2⟩
  | .dct _, _, h => by simp [D.plain] at h
  | .obj _, _, h => by simp [D.plain] at h
  | .row, _, h => by simp [D.plain] at h
  | .exn _ _ _, _, h => by simp [D.plain] at h
theorem plains_lay : ∀ (l : List D) (n : Nat), D.plains n l = true → PyData.canLayAll0 (D.pds l) = true ∧ PyData.depthAll (D.pds l) ≤ n
  | [], n, _ => ⟨rfl, Nat.zero_le _⟩
  | x :: xs, n, h => by
    simp only [D.plains, Bool.and_eq_true] at h
    obtain ⟨a1, a2⟩ := plain_lay x n h.1
    obtain ⟨b1, b2⟩ := plains_lay xs n h.2
    refine ⟨by simp only [D.pds, PyData.canLayAll0, Bool.and_eq_true]; exact ⟨a1, b1⟩, ?_⟩
    simp only [D.pds, PyData.depthAll]
    exact Nat.max_le.mpr ⟨a2, b2⟩
end
theorem plain_shaped {d : D} (h : d.plain 60 = true) : SeqAt.shaped d.pd = true := by
  obtain ⟨h1, h2⟩ := plain_lay d 60 h
  unfold SeqAt.shaped
  rw [h1, decide_eq_true (by omega)]
  rfl
section
variable {w : World} {K : PySem.W.Frag} {ra : Addr} {F H : Hp}
mutual
theorem Rep.dp (fh : Same F H) : ∀ {v : V} {d : D} (n : Nat), Rep w K ra F v d → d.plain n = true → Dp K H v d.pd
  | _, _, n, .non, _ => .non
  | _, _, n, .bl b, _ => .bl b
  | _, _, n, .int i, _ => .int i
  | _, _, n, .str s, _ => .str s
  | _, _, n, .tup h r, p => by
    cases n with
    | zero => simp [D.plain] at p
    | succ n => exact .tup (Same.seqT fh h) (RepA.dp fh n r (by simpa only [D.plain] using p))
  | _, _, n, .lst h r, p => by
    cases n with
    | zero => simp [D.plain] at p
    | succ n => exact .lst (.of (fh _ _ h)) (RepA.dp fh n r (by simpa only [D.plain] using p))
  | _, _, n, .dct h r, p => by simp [D.plain] at p
  | _, _, n, .obj h hl r, p => by simp [D.plain] at p
  | _, _, n, .row, p => by simp [D.plain] at p
  | _, _, n, .exn0 h, p => by simp [D.plain] at p
  | _, _, n, .exn h h2 hl r, p => by simp [D.plain] at p
theorem RepA.dp (fh : Same F H) : ∀ {vs : List V} {ds : List D} (n : Nat), RepA w K ra F vs ds → D.plains n ds = true → DpAll K H vs (D.pds ds)
  | _, _, n, .nil, _ => .nil
  | _, _, n, .cons h r, p => by
    simp only [D.plains, Bool.and_eq_true] at p
    exact .cons (Rep.dp fh n h p.1) (RepA.dp fh n r p.2)
end
theorem Held.dp (fh : Same F H) {v : V} {d : D} (h : Held w K ra F H v d) (p : d.plain 60 = true) : Dp K H v d.pd := by
  cases h with
  | val r => exact r.dp fh 60 p
  | @own a o r _ _ =>
    cases o with
    | lst ds =>
      obtain ⟨vs, h1, h2⟩ := r
      exact .lst (.of h1) (h2.dp fh 59 p)
    | dct kvs => simp [OD.d, D.plain] at p
end

/-! ### operators of two values, read as containers -/
def op2M (ma mb : M Ref) (f : D → D → Option D) : M D := bindM ma fun x => bindM mb fun y => bindM (derefM x) fun d => bindM (derefM y) fun d' => liftO (f d d')
/-- what an operator's rule asks is told by f -/
def OpS (w : World) (K : PySem.W.Frag) (r : R2) (f : D → D → Option D) : Prop :=
  ∀ (ra : Addr) (HK : Kp) (F : Hp) (e : Env) (σ : St) (H : Hp) (x y : V) (d d' z : D) (Q : VK), Rel w K ra HK F e σ H → Held w K ra F H x d → Held w K ra F H y d' → f d d' = some z → okG TV w K ra HK F σ Q z e → r x y H Q
section
variable {X : Cx} {W : WX} {a b : Expr} {ma mb : M Ref} {f : D → D → Option D} {r : R2} {pos : Pos}
theorem op_read (hs : OpS X.w X.K r f) {σ : St} {H : Hp} {Q : VK} (h : tG TV X.w X.K W (op2M ma mb f) σ H Q) : tOp r (tG TR X.w X.K W ma) (tG TR X.w X.K W mb) σ H Q := by
  obtain ⟨ra, HK, F, e, R, h⟩ := h
  unfold op2M at h
  refine stepG R h fun F1 e1 x v H1 s1 R1 r1 q1 => ?_
  refine stepG R1 q1 fun F2 e2 y u H2 s2 R2 r2 q2 => ?_
  have r1' : TR X.w X.K ra HK σ e2 F2 H2 v x := by
    cases x with
    | val d => exact Rep.mono s2 r1
    | slot i => exact r1
  obtain ⟨d, hd, q3, _⟩ := R2.deref r1' q2
  obtain ⟨d', hd', q4, _⟩ := R2.deref r2 q3
  unfold liftO at q4
  cases ez : f d d' with
  | none =>
    rw [ez] at q4
    exact q4.elim
  | some z =>
    rw [ez] at q4
    exact hs ra HK F2 e2 σ H2 v u d d' z Q R2 hd hd' ez q4
theorem pm_bin {op : Operator} (ho : OpR X (binaryOp op) r) (hs : OpS X.w X.K r f) (ha : PMR X W a ma) (hb : PMR X W b mb) : PM X W (.BinOp a op b pos) (op2M ma mb f) := PE.weaken (pe_op ho ha hb) fun _ _ _ h => op_read hs h
theorem pm_cmp {op : CmpOp} (ho : OpR X (compareOp op) r) (hs : OpS X.w X.K r f) (ha : PMR X W a ma) (hb : PMR X W b mb) (hm : behindInMarks op b = false) : PM X W (.Compare a [op] [b] pos) (op2M ma mb f) := PE.weaken (pe_cmpR ho ha hb hm) fun _ _ _ h => op_read hs h
/-- a value that is True or False, as a test -/
def testM (m : M D) : M Bool := bindM m fun d => match d with
  | .bl b => pureM b
  | _ => errM
theorem test_read {m : M D} {σ : St} {H : Hp} {Q : Bool → Hp → Prop} (h : tG TB X.w X.K W (testM m) σ H Q) : tG TV X.w X.K W m σ H fun x H' => ∃ k, x = .bl k ∧ Q k H' := by
  obtain ⟨ra, HK, F, e, R, h⟩ := h
  unfold testM at h
  refine stepG R h fun F1 e1 d v H1 s1 R1 r1 q1 => ?_
  cases d with
  | bl b =>
    cases r1
    exact ⟨b, rfl, q1 b F1 H1 (Same.refl F1) R1 rfl⟩
  | _ => exact q1.elim
theorem pmt_cmp {op : CmpOp} (ho : OpR X (compareOp op) r) (hs : OpS X.w X.K r f) (ha : PMR X W a ma) (hb : PMR X W b mb) (hm : behindInMarks op b = false) : PMT X W (.Compare a [op] [b] pos) (testM (op2M ma mb f)) := by
  refine PT.weaken (pt_cmpR ho ha hb hm) fun σ H Q h => ?_
  have h2 := test_read h
  obtain ⟨ra, HK, F, e, R, h3⟩ := h2
  exact op_read hs ⟨ra, HK, F, e, R, h3⟩
theorem pmt_val {e : Expr} {m : M D} (h : PM X W e m) (he : ∀ whole, isTrue e X.env whole = (do let v ← whole; standAt e.pos; holding [v] (truthy v)) := by intro _; rfl) : PMT X W e (testM m) :=
  PT.weaken (pt_val h he) fun _ _ _ h => test_read h

/-! ### == and != -/
def eqF (d e : D) : Option D := if d.plain 60 && e.plain 60 then some (.bl (d.eqv e)) else none
def neF (d e : D) : Option D := if d.plain 60 && e.plain 60 then some (.bl (!d.eqv e)) else none
theorem ops_eq : OpS X.w X.K (rEqD X.K) eqF := by
  intro ra HK F e σ H x y d d' z Q R hx hy hz q
  unfold eqF at hz
  by_cases c : (d.plain 60 && d'.plain 60) = true
  · rw [if_pos c] at hz
    cases hz
    obtain ⟨c1, c2⟩ := Bool.and_eq_true_iff.mp c
    refine ⟨d.pd, d'.pd, hx.dp R.fh c1, hy.dp R.fh c2, plain_shaped c1, plain_shaped c2, ?_⟩
    rw [eqv_pd d d' 60 60 c1 c2]
    exact q _ F H (Same.refl F) R (.bl _)
  · rw [if_neg c] at hz
    cases hz
theorem ops_ne : OpS X.w X.K (rNeD X.K) neF := by
  intro ra HK F e σ H x y d d' z Q R hx hy hz q
  unfold neF at hz
  by_cases c : (d.plain 60 && d'.plain 60) = true
  · rw [if_pos c] at hz
    cases hz
    obtain ⟨c1, c2⟩ := Bool.and_eq_true_iff.mp c
    refine ⟨d.pd, d'.pd, hx.dp R.fh c1, hy.dp R.fh c2, plain_shaped c1, plain_shaped c2, ?_⟩
    rw [eqv_pd d d' 60 60 c1 c2]
    exact q _ F H (Same.refl F) R (.bl _)
  · rw [if_neg c] at hz
    cases hz

/-! ### whole numbers -/
/-- an operator on two numbers, where c holds -/
def intF (c : Int → Int → Bool) (g : Int → Int → Int) (d e : D) : Option D := match d, e with
  | .int i, .int j => if c i j then some (.int (g i j)) else none
  | _, _ => none
def cmpF (g : Int → Int → Bool) (d e : D) : Option D := match d, e with
  | .int i, .int j => some (.bl (g i j))
  | _, _ => none
theorem Held.int_ {w : World} {K : PySem.W.Frag} {ra : Addr} {F H : Hp} {v : V} {i : Int} (h : Held w K ra F H v (.int i)) : v = .int i := by
  generalize e : D.int i = d at h
  cases h with
  | val r =>
    subst e
    cases r
    rfl
  | @own a o _ _ _ => cases o <;> cases e
theorem Held.str_ {w : World} {K : PySem.W.Frag} {ra : Addr} {F H : Hp} {v : V} {i : Str} (h : Held w K ra F H v (.str i)) : v = .str i := by
  generalize e : D.str i = d at h
  cases h with
  | val r =>
    subst e
    cases r
    rfl
  | @own a o _ _ _ => cases o <;> cases e
theorem Held.bl_ {w : World} {K : PySem.W.Frag} {ra : Addr} {F H : Hp} {v : V} {i : Bool} (h : Held w K ra F H v (.bl i)) : v = .bl i := by
  generalize e : D.bl i = d at h
  cases h with
  | val r =>
    subst e
    cases r
    rfl
  | @own a o _ _ _ => cases o <;> cases e
theorem ops_int {C : Int → Int → Prop} {c : Int → Int → Bool} {g : Int → Int → Int} (hc : ∀ i j, c i j = true → C i j) : OpS X.w X.K (rI C fun i j => .int (g i j)) (intF c g) := by
  intro ra HK F e σ H x y d d' z Q R hx hy hz q
  cases d with
  | int i =>
    cases d' with
    | int j =>
      simp only [intF] at hz
      by_cases k : c i j = true
      · rw [if_pos k] at hz
        cases hz
        exact ⟨i, j, hx.int_, hy.int_, hc i j k, q _ F H (Same.refl F) R (.int _)⟩
      · rw [if_neg k] at hz
        cases hz
    | _ => cases hz
  | _ => cases hz
theorem ops_int0 {g : Int → Int → Int} : OpS X.w X.K (rI0 fun i j => .int (g i j)) (intF (fun _ _ => true) g) := by
  intro ra HK F e σ H x y d d' z Q R hx hy hz q
  cases d with
  | int i =>
    cases d' with
    | int j =>
      cases hz
      exact ⟨i, j, hx.int_, hy.int_, q _ F H (Same.refl F) R (.int _)⟩
    | _ => cases hz
  | _ => cases hz
theorem ops_cmp {g : Int → Int → Bool} : OpS X.w X.K (rI0 fun i j => .bl (g i j)) (cmpF g) := by
  intro ra HK F e σ H x y d d' z Q R hx hy hz q
  cases d with
  | int i =>
    cases d' with
    | int j =>
      cases hz
      exact ⟨i, j, hx.int_, hy.int_, q _ F H (Same.refl F) R (.bl _)⟩
    | _ => cases hz
  | _ => cases hz
theorem OpS.or {r r' : R2} {f f' g : D → D → Option D} (h : OpS X.w X.K r f) (h' : OpS X.w X.K r' f') (hg : ∀ d e z, g d e = some z → f d e = some z ∨ f' d e = some z) : OpS X.w X.K (fun x y H Q => r x y H Q ∨ r' x y H Q) g := by
  intro ra HK F e σ H x y d d' z Q R hx hy hz q
  rcases hg d d' z hz with k | k
  · exact .inl (h ra HK F e σ H x y d d' z Q R hx hy k q)
  · exact .inr (h' ra HK F e σ H x y d d' z Q R hx hy k q)
end
end Mi

set_option Elab.async false
set_option linter.all false
set_option maxRecDepth 100000
set_option maxHeartbeats 4000000
/-! Mi, part D: tuple * int (all cases), the operators. -/
namespace L2
open PySem PySem.Spec PyProof.Rows
theorem tuple_mulS (l : Addr) (items : Array Value) (n : Nat) (dd : Option Addr) (sl : Array (Option Value)) (x : Int) (u : Tok) (c0 : (decide (x < -(2 ^ 63)) || decide (x ≥ 2 ^ 63)) = false) (c1 : (items.isEmpty || x == 1) = true) :
    Meets (Builtin.«tuple.__mul__» ⟨[.ref l, .int x u], []⟩) (fun _ R s => s.heap.get? l = some { cls := .type "tuple", dict := dd, data := .seq items n, slots := sl } ∧
      R (.ok (.ret (Value.ref l))) s) :=
  .of_wp fun prog w A R s h => by
    obtain ⟨hp, g, d, tk, os⟩ := s
    obtain ⟨hl, h⟩ := h
    have f1 := AutoSeq1.idx_int
    wp_walk using wpAny_loadPart' hl
    repeat (first
      | (refine wpAny_ite_false (decide_eq_false (by rw [c0]; exact Bool.false_ne_true)) ?_; wp_walk using wpAny_loadPart' hl)
      | (refine wpAny_ite_true (decide_eq_true c1) ?_; wp_walk using wpAny_loadPart' hl)
      | (refine wpAny_ite_true (decide_eq_true (by rfl)) ?_; wp_walk using wpAny_loadPart' hl))
    exact ⟨_, rfl, h⟩
theorem tuple_mul0 (l : Addr) (items : Array Value) (n : Nat) (dd : Option Addr) (sl : Array (Option Value)) (x : Int) (u : Tok) (c0 : (decide (x < -(2 ^ 63)) || decide (x ≥ 2 ^ 63)) = false) (c1 : (items.isEmpty || x == 1) = false) (c2 : (decide (x ≤ 0) || items.isEmpty) = true) :
    Meets (Builtin.«tuple.__mul__» ⟨[.ref l, .int x u], []⟩) (fun _ R s => s.heap.get? l = some { cls := .type "tuple", dict := dd, data := .seq items n, slots := sl } ∧
      R (.ok (.ret (Value.ref s.heap.objs.size))) { s with heap := s.heap.push { cls := Value.type "tuple", data := Data.seq #[] }, toks := s.toks }) :=
  .of_wp fun prog w A R s h => by
    obtain ⟨hp, g, d, tk, os⟩ := s
    obtain ⟨hl, h⟩ := h
    have f1 := AutoSeq1.idx_int
    wp_walk using wpAny_loadPart' hl
    repeat (first
      | (refine wpAny_ite_false (decide_eq_false (by rw [c0]; exact Bool.false_ne_true)) ?_; wp_walk using wpAny_loadPart' hl)
      | (refine wpAny_ite_false (decide_eq_false (by rw [c1]; exact Bool.false_ne_true)) ?_; wp_walk using wpAny_loadPart' hl)
      | (refine wpAny_ite_true (decide_eq_true c2) ?_; wp_walk using wpAny_loadPart' hl)
      | (refine wpAny_ite_false (decide_eq_false (Nat.not_lt.mpr (Nat.zero_le _))) ?_; wp_walk using wpAny_loadPart' hl))
    exact ⟨_, rfl, h⟩
/-- t * k, any t, any k in bounds -/
def rRepA (K : PySem.W.Frag) : R2 := fun x y H Q => ∃ l k xs, x = .ref l ∧ y = .int k ∧ SqT K H l xs ∧ -(2 ^ 63) ≤ k ∧ k ≤ 1000 ∧ xs.length ≤ 1000 ∧
  (xs = [] ∨ k = 1 → Q (.ref l) H) ∧ (xs ≠ [] ∧ k ≠ 1 → ∀ p, H p = none → Q (.ref p) (upd H p (.tup (List.replicate k.toNat xs).flatten)))
section
variable {X : Cx}
theorem op_repA : OpR X (binaryOp .Mult) (rRepA X.K) := by
  intro pins s σ H x y v u Q I rx ry h
  obtain ⟨l, k, xs, rfl, rfl, hT, h1, h2, hz, q1, q2⟩ := h
  by_cases c : xs = [] ∨ k = 1
  · cases rx
    obtain ⟨t, rfl⟩ := ry
    obtain ⟨its, r, ⟨⟨cls, dd, data, sl⟩, ho, hc, n, hd⟩, hs⟩ := I.tuple hT
    simp only at hc hd
    subst hc hd
    have c0 : (decide (k < -(2 ^ 63)) || decide (k ≥ 2 ^ 63)) = false := by
      rw [decide_eq_false (by omega), decide_eq_false (by omega)] <;> rfl
    have c1 : (its.toArray.isEmpty || k == 1) = true := by
      rcases c with c | c
      · subst c
        cases r
        rfl
      · subst c
        simp
    refine wpAny_binaryOp_repeat_ref (T := "tuple") (U := "int") (by decide) ⟨_, ho, rfl⟩ (fun s' => typeIs_int s' k t) noFill_tuple_mul F.fills_int_mul F.slot_int_rmul repeat_tuple F.slot_int_index.lookup
      (call_meets F.slot_int_rmul (typeIs_int s k t) F.entry_int_rmul (F.args_int_rmul_2 _ _) (int_rmul_tuple k t l its.toArray n dd sl)
        ⟨ho, rfl, ⟨_, ho, rfl⟩, call_meets F.slot_tuple_mul ⟨_, ho, rfl⟩ F.entry_tuple_mul (F.args_tuple_mul_2 _ _) (tuple_mulS l its.toArray n dd sl k t c0 c1) ⟨ho, ?_⟩⟩)
    exact ⟨.ref l, H, I, rfl, q1 c⟩
  · have c' : xs ≠ [] ∧ k ≠ 1 := ⟨fun z => c (.inl z), fun z => c (.inr z)⟩
    by_cases k0 : 2 ≤ k
    · exact op_repT pins s σ H _ _ v u Q I rx ry ⟨l, k, xs, rfl, rfl, hT, c'.1, k0, h2, hz, q2 c'⟩
    · cases rx
      obtain ⟨t, rfl⟩ := ry
      obtain ⟨its, r, ⟨⟨cls, dd, data, sl⟩, ho, hc, n, hd⟩, hs⟩ := I.tuple hT
      simp only at hc hd
      subst hc hd
      have c0 : (decide (k < -(2 ^ 63)) || decide (k ≥ 2 ^ 63)) = false := by
        rw [decide_eq_false (by omega), decide_eq_false (by omega)] <;> rfl
      have hk : k ≤ 0 := by
        have := c'.2
        omega
      have hi : its.toArray.isEmpty = false := by
        cases r with
        | nil => exact absurd rfl c'.1
        | cons _ _ => rfl
      have c1 : (its.toArray.isEmpty || k == 1) = false := by
        rw [hi, Bool.false_or]
        exact beq_eq_false_iff_ne.mpr (by omega)
      have c2 : (decide (k ≤ 0) || its.toArray.isEmpty) = true := by
        rw [decide_eq_true hk]
        rfl
      refine wpAny_binaryOp_repeat_ref (T := "tuple") (U := "int") (by decide) ⟨_, ho, rfl⟩ (fun s' => typeIs_int s' k t) noFill_tuple_mul F.fills_int_mul F.slot_int_rmul repeat_tuple F.slot_int_index.lookup
        (call_meets F.slot_int_rmul (typeIs_int s k t) F.entry_int_rmul (F.args_int_rmul_2 _ _) (int_rmul_tuple k t l its.toArray n dd sl)
          ⟨ho, rfl, ⟨_, ho, rfl⟩, call_meets F.slot_tuple_mul ⟨_, ho, rfl⟩ F.entry_tuple_mul (F.args_tuple_mul_2 _ _) (tuple_mul0 l its.toArray n dd sl k t c0 c1 c2) ⟨ho, ?_⟩⟩)
      have e0 : (List.replicate k.toNat xs).flatten = [] := by
        have : k.toNat = 0 := by omega
        rw [this]
        rfl
      refine ⟨.ref s.heap.objs.size, _, I.laid (t' := s.toks) (o := .tup (List.replicate k.toNat xs).flatten) (fun b ob q => Heap.get?_push_of_some _ q) (Nat.le_refl _) ?_, rfl, q2 c' _ (I.hok.fresh (Nat.le_refl _))⟩
      rw [e0]
      exact ⟨by decide, [], .nil, IsTup.new _ _⟩
end
end L2
namespace Mi
open PySem PySem.Spec PyProof.Rows L2
section
variable {w : World} {K : PySem.W.Frag} {ra : Addr} {F H : Hp}
theorem Held.rep_tup {v : V} {ds : List D} (h : Held w K ra F H v (.tup ds)) : Rep w K ra F v (.tup ds) := by
  generalize e : D.tup ds = d at h ⊢
  cases h with
  | val r => exact r
  | @own a o _ _ _ => cases o <;> cases e
theorem RepA.rep {vs : List V} {ds : List D} (h : RepA w K ra F vs ds) : ∀ n : Nat, RepA w K ra F (List.replicate n vs).flatten (List.replicate n ds).flatten
  | 0 => .nil
  | n + 1 => by
    rw [List.replicate_succ, List.replicate_succ, List.flatten_cons, List.flatten_cons]
    exact h.append (RepA.rep h n)
end
/-! ### +, -, *, //, %, ** -/
def addF (d e : D) : Option D := match d, e with
  | .int i, .int j => some (.int (i + j))
  | .str x, .str y => if x.length + y.length ≤ 1000000 then some (.str (x ++ y)) else none
  | .tup xs, .tup ys => if xs.length + ys.length ≤ 1000000 then some (.tup (xs ++ ys)) else none
  | .lst xs, .lst ys => if xs.length + ys.length ≤ 1000000 then some (.lst (xs ++ ys)) else none
  | _, _ => none
def addStr (d e : D) : Option D := match d, e with
  | .str x, .str y => if x.length + y.length ≤ 1000000 then some (.str (x ++ y)) else none
  | _, _ => none
def addTup (d e : D) : Option D := match d, e with
  | .tup xs, .tup ys => if xs.length + ys.length ≤ 1000000 then some (.tup (xs ++ ys)) else none
  | _, _ => none
def addLst (d e : D) : Option D := match d, e with
  | .lst xs, .lst ys => if xs.length + ys.length ≤ 1000000 then some (.lst (xs ++ ys)) else none
  | _, _ => none
theorem le_line {n : Nat} (h : n ≤ 1000000) : n ≤ sizeLine := Nat.le_trans h (by decide)
section
variable {X : Cx} {W : WX}
theorem ops_addStr : OpS X.w X.K (fun x y H Q => ∃ i j, x = .str i ∧ y = .str j ∧ i.length + j.length ≤ sizeLine ∧ Q (.str (i ++ j)) H) addStr := by
  intro ra HK F e σ H x y d d' z Q R hx hy hz q
  cases d with
  | str i =>
    cases d' with
    | str j =>
      simp only [addStr] at hz
      by_cases k : i.length + j.length ≤ 1000000
      · rw [if_pos k] at hz
        cases hz
        exact ⟨i, j, hx.str_, hy.str_, le_line k, q _ F H (Same.refl F) R (.str _)⟩
      · rw [if_neg k] at hz
        cases hz
    | _ => cases hz
  | _ => cases hz
theorem ops_addTup : OpS X.w X.K (rCatA X.K) addTup := by
  intro ra HK F e σ H x y d d' z Q R hx hy hz q
  cases d with
  | tup i =>
    cases d' with
    | tup j =>
      simp only [addTup] at hz
      by_cases k : i.length + j.length ≤ 1000000
      · rw [if_pos k] at hz
        cases hz
        obtain ⟨a, vs, rfl, h1, h2⟩ := hx.tup R.fh
        obtain ⟨b, us, rfl, h3, h4⟩ := hy.tup R.fh
        refine ⟨a, b, vs, us, rfl, rfl, h1, h3, by rw [h2.length, h4.length]; exact le_line k, fun z => ?_, fun _ z => ?_, fun _ _ p hp => ?_⟩
        · subst z
          cases h2
          exact q _ F H (Same.refl F) R hy.rep_tup
        · subst z
          cases h4
          rw [List.append_nil] at q
          exact q _ F H (Same.refl F) R hx.rep_tup
        · obtain ⟨R2, s2⟩ := R.alloc hp (.tup (vs ++ us))
          exact q _ _ _ s2 R2 (.tup (.of upd_same) (RepA.mono s2 (h2.append h4)))
      · rw [if_neg k] at hz
        cases hz
    | _ => cases hz
  | _ => cases hz
theorem ops_addLst : OpS X.w X.K rCat addLst := by
  intro ra HK F e σ H x y d d' z Q R hx hy hz q
  cases d with
  | lst i =>
    cases d' with
    | lst j =>
      simp only [addLst] at hz
      by_cases k : i.length + j.length ≤ 1000000
      · rw [if_pos k] at hz
        cases hz
        obtain ⟨a, vs, rfl, h1, h2⟩ := hx.lst R.fh
        obtain ⟨b, us, rfl, h3, h4⟩ := hy.lst R.fh
        refine ⟨a, b, vs, us, rfl, rfl, h1, h3, by rw [h2.length, h4.length]; exact le_line k, fun p hp => ?_⟩
        obtain ⟨R2, s2⟩ := R.alloc hp (.lst (vs ++ us))
        exact q _ _ _ s2 R2 (.lst upd_same (RepA.mono s2 (h2.append h4)))
      · rw [if_neg k] at hz
        cases hz
    | _ => cases hz
  | _ => cases hz
theorem ops_add : OpS X.w X.K (fun x y H Q => rI0 (fun i j => V.int (i + j)) x y H Q ∨ (∃ i j, x = .str i ∧ y = .str j ∧ i.length + j.length ≤ sizeLine ∧ Q (.str (i ++ j)) H) ∨ rCatA X.K x y H Q ∨ rCat x y H Q) addF := by
  intro ra HK F e σ H x y d d' z Q R hx hy hz q
  cases d with
  | int i =>
    cases d' with
    | int j => exact .inl (ops_int0 (X := X) (g := (· + ·)) ra HK F e σ H x y (.int i) (.int j) z Q R hx hy hz q)
    | _ => cases hz
  | str i =>
    cases d' with
    | str j => exact .inr (.inl (ops_addStr ra HK F e σ H x y (.str i) (.str j) z Q R hx hy hz q))
    | _ => cases hz
  | tup i =>
    cases d' with
    | tup j => exact .inr (.inr (.inl (ops_addTup ra HK F e σ H x y (.tup i) (.tup j) z Q R hx hy hz q)))
    | _ => cases hz
  | lst i =>
    cases d' with
    | lst j => exact .inr (.inr (.inr (ops_addLst (X := X) ra HK F e σ H x y (.lst i) (.lst j) z Q R hx hy hz q)))
    | _ => cases hz
  | _ => cases hz
theorem op_add4 : OpR X (binaryOp .Add) (fun x y H Q => rI0 (fun i j => V.int (i + j)) x y H Q ∨ (∃ i j, x = .str i ∧ y = .str j ∧ i.length + j.length ≤ sizeLine ∧ Q (.str (i ++ j)) H) ∨ rCatA X.K x y H Q ∨ rCat x y H Q) :=
  OpR.or op_add (OpR.or op_add_str (OpR.or op_catA op_cat))
variable {a b : Expr} {ma mb : M Ref} {pos : Pos}
theorem pm_add (ha : PMR X W a ma) (hb : PMR X W b mb) : PM X W (.BinOp a .Add b pos) (op2M ma mb addF) := pm_bin op_add4 ops_add ha hb
def subF : D → D → Option D := intF (fun _ _ => true) (· - ·)
theorem pm_sub (ha : PMR X W a ma) (hb : PMR X W b mb) : PM X W (.BinOp a .Sub b pos) (op2M ma mb subF) := pm_bin op_sub (ops_int0 (g := (· - ·))) ha hb
def mulC (i j : Int) : Bool := (decide (-(2 ^ 64) < i) && decide (i < 2 ^ 64)) || ((decide (-(2 ^ 64) < j) && decide (j < 2 ^ 64)) || decide (i.natAbs.log2 + j.natAbs.log2 < 1000000))
theorem mulC_ok {i j : Int} (h : mulC i j = true) : IntMulOk i j := by
  unfold mulC at h
  simp only [Bool.or_eq_true, Bool.and_eq_true, decide_eq_true_eq] at h
  rcases h with h | h | h
  · exact CMul.ok (.inl h)
  · exact CMul.ok (.inr h)
  · exact CMulW.ok h
theorem op_mulA : OpR X (binaryOp .Mult) (rI IntMulOk fun i j => .int (i * j)) := opI fun _ _ _ _ _ _ _ hc q => mul_int q hc
/-- * -/
def mulF (d e : D) : Option D := match d, e with
  | .int i, .int j => if mulC i j then some (.int (i * j)) else none
  | .tup xs, .int k => if -(2 ^ 63) ≤ k ∧ k ≤ 1000 ∧ xs.length ≤ 1000 then some (.tup (List.replicate k.toNat xs).flatten) else none
  | .lst xs, .int k => if -(2 ^ 63) ≤ k ∧ k ≤ 1000 ∧ xs.length ≤ 1000 then some (.lst (List.replicate k.toNat xs).flatten) else none
  | .str x, .int k => if 0 ≤ k ∧ k ≤ 1000 ∧ x.length ≤ 1000 ∧ x.length ≠ 0 then some (.str ⟨(List.replicate k.toNat x.cps).foldl (· ++ ·) #[]⟩) else none
  | _, _ => none
theorem op_repS : OpR X (binaryOp .Mult) (fun x y H Q => ∃ z k, x = .str z ∧ y = .int k ∧ 0 ≤ k ∧ k ≤ 1000 ∧ z.length ≤ 1000 ∧ z.length ≠ 0 ∧ Q (.str ⟨(List.replicate k.toNat z.cps).foldl (· ++ ·) #[]⟩) H) := by
  intro pins s σ H x y v u Q I rx ry h
  obtain ⟨z, k, rfl, rfl, h1, h2, h3, h4, q⟩ := h
  obtain ⟨t, rfl⟩ := rx
  obtain ⟨t', rfl⟩ := ry
  refine PySem.P.mul_str (by rw [decide_eq_false (by omega), decide_eq_false (by omega)] <;> rfl) (fun a _ => ?_) (fun a _ => ?_) ?_
  · have hk : 1 ≤ k := by omega
    have : (z.length : Int) ≤ 1000 := by omega
    have e : (1000 : Int) ≤ (2 ^ 63 - 1) / k := by
      rw [Int.le_ediv_iff_mul_le (by omega)]
      omega
    omega
  · unfold Builtin.Str.tooLong
    have : z.length * k.toNat ≤ 1000 * 1000 := Nat.mul_le_mul h3 (by omega)
    first
      | exact decide_eq_false (by rw [sizeLine_eq]; omega)
      | (simp [sizeLine_eq]; omega)
  · by_cases k0 : k < 1
    · rw [if_pos k0]
      have e0 : k.toNat = 0 := by omega
      rw [e0] at q
      exact ⟨by decide, ⟨.str Str.empty, H, I.tok _, ⟨_, rfl⟩, q⟩⟩
    · rw [if_neg k0]
      by_cases k1 : k = 1
      · subst k1
        rw [if_pos (by simp)]
        have e1 : (⟨(List.replicate (1 : Int).toNat z.cps).foldl (· ++ ·) #[]⟩ : Str) = z := by simp
        rw [e1] at q
        exact ⟨.str z, H, I.tok _, ⟨_, rfl⟩, q⟩
      · rw [if_neg (by simp [k1, h4])]
        refine ⟨?_, ⟨.str ⟨(List.replicate k.toNat z.cps).foldl (· ++ ·) #[]⟩, H, I.tok _, ⟨_, rfl⟩, q⟩⟩
        have e2 : z.cps = z.cps.toList.toArray := by simp
        have l2 : z.cps.toList.length = z.length := by simp [Str.length]
        have fl : ((List.replicate k.toNat z.cps).foldl (· ++ ·) #[]).size = k.toNat * z.length := by
          have g : ∀ (m : Nat) (acc : Array Nat), ((List.replicate m z.cps).foldl (· ++ ·) acc).size = acc.size + m * z.length := by
            intro m
            induction m with
            | zero => intro acc; simp
            | succ m ih =>
              intro acc
              rw [List.replicate_succ, List.foldl_cons, ih, Array.size_append, Nat.succ_mul]
              have : z.cps.size = z.length := rfl
              omega
          rw [g]
          simp
        have : k.toNat * z.length ≤ 1000 * 1000 := Nat.mul_le_mul (by omega) h3
        first
          | (show ((List.replicate k.toNat z.cps).foldl (· ++ ·) #[]).size ≤ sizeLine; rw [fl]; exact le_line (by omega))
          | (show ¬ _; rw [fl]; omega)
theorem ops_mulT : OpS X.w X.K (rRepA X.K) (fun d e => match d, e with
  | .tup xs, .int k => if -(2 ^ 63) ≤ k ∧ k ≤ 1000 ∧ xs.length ≤ 1000 then some (.tup (List.replicate k.toNat xs).flatten) else none
  | _, _ => none) := by
  intro ra HK F e σ H x y d d' z Q R hx hy hz q
  cases d with
  | tup xs =>
    cases d' with
    | int k =>
      simp only at hz
      by_cases c : -(2 ^ 63) ≤ k ∧ k ≤ 1000 ∧ xs.length ≤ 1000
      · rw [if_pos c] at hz
        cases hz
        obtain ⟨a, vs, rfl, h1, h2⟩ := hx.tup R.fh
        refine ⟨a, k, vs, rfl, hy.int_, h1, c.1, c.2.1, by rw [h2.length]; exact c.2.2, fun z => ?_, fun _ p hp => ?_⟩
        · rcases z with z | z
          · subst z
            cases h2
            have : (List.replicate k.toNat ([] : List D)).flatten = [] := by simp
            rw [this] at q
            exact q _ F H (Same.refl F) R hx.rep_tup
          · subst z
            have : (List.replicate (1 : Int).toNat xs).flatten = xs := by simp
            rw [this] at q
            exact q _ F H (Same.refl F) R hx.rep_tup
        · obtain ⟨R2, s2⟩ := R.alloc hp (.tup (List.replicate k.toNat vs).flatten)
          exact q _ _ _ s2 R2 (.tup (.of upd_same) (RepA.mono s2 (h2.rep _)))
      · rw [if_neg c] at hz
        cases hz
    | _ => cases hz
  | _ => cases hz
theorem ops_mul : OpS X.w X.K (fun x y H Q => rI IntMulOk (fun i j => V.int (i * j)) x y H Q ∨ rRepA X.K x y H Q ∨ rRep x y H Q ∨ (∃ z k, x = .str z ∧ y = .int k ∧ 0 ≤ k ∧ k ≤ 1000 ∧ z.length ≤ 1000 ∧ z.length ≠ 0 ∧ Q (.str ⟨(List.replicate k.toNat z.cps).foldl (· ++ ·) #[]⟩) H)) mulF := by
  intro ra HK F e σ H x y d d' z Q R hx hy hz q
  cases d with
  | int i =>
    cases d' with
    | int j => exact .inl (ops_int (X := X) (C := IntMulOk) (c := mulC) (g := (· * ·)) (fun i j h => mulC_ok h) ra HK F e σ H x y (.int i) (.int j) z Q R hx hy hz q)
    | _ => cases hz
  | tup i =>
    cases d' with
    | int j => exact .inr (.inl (ops_mulT ra HK F e σ H x y (.tup i) (.int j) z Q R hx hy hz q))
    | _ => cases hz
  | lst i =>
    cases d' with
    | int k =>
      simp only [mulF] at hz
      by_cases c : -(2 ^ 63) ≤ k ∧ k ≤ 1000 ∧ i.length ≤ 1000
      · rw [if_pos c] at hz
        cases hz
        obtain ⟨a, vs, rfl, h1, h2⟩ := hx.lst R.fh
        refine .inr (.inr (.inl ⟨a, k, vs, rfl, hy.int_, h1, c.1, by omega, ?_, fun p hp => ?_⟩))
        · rw [h2.length]
          have : i.length * k.toNat ≤ 1000 * 1000 := Nat.mul_le_mul c.2.2 (by omega)
          exact le_line (by omega)
        · obtain ⟨R2, s2⟩ := R.alloc hp (.lst (List.replicate k.toNat vs).flatten)
          exact q _ _ _ s2 R2 (.lst upd_same (RepA.mono s2 (h2.rep _)))
      · rw [if_neg c] at hz
        cases hz
    | _ => cases hz
  | str x =>
    cases d' with
    | int k =>
      simp only [mulF] at hz
      by_cases c : 0 ≤ k ∧ k ≤ 1000 ∧ x.length ≤ 1000 ∧ x.length ≠ 0
      · rw [if_pos c] at hz
        cases hz
        exact .inr (.inr (.inr ⟨x, k, hx.str_, hy.int_, c.1, c.2.1, c.2.2.1, c.2.2.2, q _ F H (Same.refl F) R (.str _)⟩))
      · rw [if_neg c] at hz
        cases hz
    | _ => cases hz
  | _ => cases hz
theorem op_mul4 : OpR X (binaryOp .Mult) (fun x y H Q => rI IntMulOk (fun i j => V.int (i * j)) x y H Q ∨ rRepA X.K x y H Q ∨ rRep x y H Q ∨ (∃ z k, x = .str z ∧ y = .int k ∧ 0 ≤ k ∧ k ≤ 1000 ∧ z.length ≤ 1000 ∧ z.length ≠ 0 ∧ Q (.str ⟨(List.replicate k.toNat z.cps).foldl (· ++ ·) #[]⟩) H)) :=
  OpR.or op_mulA (OpR.or op_repA (OpR.or op_rep op_repS))
theorem pm_mul (ha : PMR X W a ma) (hb : PMR X W b mb) : PM X W (.BinOp a .Mult b pos) (op2M ma mb mulF) := pm_bin op_mul4 ops_mul ha hb
def fdivC (_ j : Int) : Bool := decide (j ≠ 0) && decide (j.natAbs.log2 < 9000)
def fdivF : D → D → Option D := intF fdivC Int.fdiv
theorem op_fdivA : OpR X (binaryOp .FloorDiv) (rI (fun _ j => j ≠ 0 ∧ j.natAbs.log2 < 9000) fun i j => .int (i.fdiv j)) := opI fun _ _ _ _ _ _ _ hc q => floordiv_int hc.1 q (.inl (PyProof.noPylong_of_log2 hc.2))
theorem pm_fdiv (ha : PMR X W a ma) (hb : PMR X W b mb) : PM X W (.BinOp a .FloorDiv b pos) (op2M ma mb fdivF) := pm_bin op_fdivA (ops_int fun i j h => by
  unfold fdivC at h
  simp only [Bool.and_eq_true, decide_eq_true_eq] at h
  exact h) ha hb
def modF : D → D → Option D := intF (fun _ j => decide (j ≠ 0)) Int.fmod
theorem pm_mod (ha : PMR X W a ma) (hb : PMR X W b mb) : PM X W (.BinOp a .Mod b pos) (op2M ma mb modF) := pm_bin op_modN (ops_int fun i j h => of_decide_eq_true h) ha hb
def powF : D → D → Option D := intF (fun i j => decide (0 ≤ j) && (decide (j ≤ 1000000) && decide (i.natAbs < 2 ^ 64))) (fun i j => i ^ j.toNat)
theorem pm_pow (ha : PMR X W a ma) (hb : PMR X W b mb) : PM X W (.BinOp a .Pow b pos) (op2M ma mb powF) := pm_bin op_pow (ops_int fun i j h => by
  simp only [Bool.and_eq_true, decide_eq_true_eq] at h
  exact ⟨h.1, h.2.1, h.2.2⟩) ha hb
/-- -n -/
def negM (m : M D) : M D := bindM m fun d => match d with
  | .int i => pureM (.int (-i))
  | _ => errM
theorem pm_neg {m : M D} (ha : PM X W a m) : PM X W (.UnaryOp .USub a pos) (negM m) := by
  refine PE.weaken (pe_un un_neg ha) ?_
  rintro σ H Q ⟨ra, HK, F, e, R, h⟩
  unfold negM at h
  refine stepG R h fun F1 e1 d v H1 s1 R1 r1 q1 => ?_
  cases d with
  | int i =>
    cases r1
    exact ⟨i, rfl, q1 _ F1 H1 (Same.refl F1) R1 (.int _)⟩
  | _ => exact q1.elim
end
end Mi

set_option Elab.async false
set_option linter.all false
set_option maxRecDepth 100000
set_option maxHeartbeats 4000000
/-! Mi, part E: order, in, is, and, or, not, if. -/
namespace Mi
open PySem PySem.Spec PyProof.Rows L2

/-! ### the order of tuples -/
inductive Ord3 where
  | lt | le | gt
  deriving DecidableEq
def Ord3.op : Ord3 → CmpOp
  | .lt => .Lt
  | .le => .LtE
  | .gt => .Gt
def Ord3.int : Ord3 → Int → Int → Bool
  | .lt, i, j => decide (i < j)
  | .le, i, j => decide (i ≤ j)
  | .gt, i, j => decide (j < i)
def Ord3.len : Ord3 → Nat → Nat → Bool
  | .lt, i, j => decide (i < j)
  | .le, i, j => decide (i ≤ j)
  | .gt, i, j => decide (j < i)
mutual
/-- x < y and its like: numbers, tuples of comparable things (all pairs are looked at) -/
def D.cmp (o : Ord3) : Nat → D → D → Option Bool
  | _, .int i, .int j => some (o.int i j)
  | 0, _, _ => none
  | n + 1, .tup l, .tup m => D.cmps o n l m (o.len l.length m.length)
  | _, _, _ => none
def D.cmps (o : Ord3) : Nat → List D → List D → Bool → Option Bool
  | n, x :: xs, y :: ys, z => match (if x.plain 20 && y.plain 20 then some (x.eqv y) else none), D.cmps o n xs ys z with
    | some true, some c => some c
    | some false, some _ => D.cmp o n x y
    | _, _ => none
  | _, [], _, z => some z
  | _, _ :: _, [], z => some z
end
theorem cmps_all {o : Ord3} {n : Nat} : ∀ (xs ys : List D) (z b : Bool), D.cmps o n xs ys z = some b → ∀ j, j < xs.length → j < ys.length →
    (xs.getD j .non).plain 20 = true ∧ (ys.getD j .non).plain 20 = true ∧ ((xs.getD j .non).eqv (ys.getD j .non) = false → ∃ c, D.cmp o n (xs.getD j .non) (ys.getD j .non) = some c)
  | [], _, _, _, _, j, h1, _ => by simp at h1
  | _ :: _, [], _, _, _, j, _, h2 => by simp at h2
  | x :: xs, y :: ys, z, b, h, j, h1, h2 => by
    simp only [D.cmps] at h
    by_cases p : (x.plain 20 && y.plain 20) = true
    · rw [if_pos p] at h
      obtain ⟨p1, p2⟩ := Bool.and_eq_true_iff.mp p
      cases ht : D.cmps o n xs ys z with
      | none =>
        rw [ht] at h
        cases hx : x.eqv y <;> rw [hx] at h <;> cases h
      | some c =>
        cases j with
        | zero =>
          refine ⟨p1, p2, fun e => ?_⟩
          have e' : x.eqv y = false := e
          rw [ht, e'] at h
          exact ⟨b, h⟩
        | succ j =>
          have := cmps_all xs ys z c ht j (by simpa using h1) (by simpa using h2)
          simpa using this
    · rw [if_neg p] at h
      cases h
theorem cmps_lex {o : Ord3} {n : Nat} {e r : Nat → Bool} : ∀ (xs ys : List D) (z b : Bool) (i : Nat), D.cmps o n xs ys z = some b →
    (∀ j, j < xs.length → j < ys.length → e (i + j) = (xs.getD j .non).eqv (ys.getD j .non) ∧ r (i + j) = (D.cmp o n (xs.getD j .non) (ys.getD j .non)).getD false) →
    Ob.lexAt e r z i (min xs.length ys.length) = b
  | [], _, _, _, _, h, _ => by
    simp only [D.cmps] at h
    cases h
    simp [Ob.lexAt]
  | _ :: _, [], _, _, _, h, _ => by
    simp only [D.cmps] at h
    cases h
    simp [Ob.lexAt]
  | x :: xs, y :: ys, z, b, i, h, k => by
    have k0 := k 0 (by simp) (by simp)
    simp only [Nat.add_zero, List.getD_cons_zero] at k0
    have em : min (x :: xs).length (y :: ys).length = min xs.length ys.length + 1 := by simp [Nat.succ_min_succ]
    rw [em, Ob.lexAt_succ, k0.1, k0.2]
    simp only [D.cmps] at h
    by_cases p : (x.plain 20 && y.plain 20) = true
    · rw [if_pos p] at h
      cases ht : D.cmps o n xs ys z with
      | none =>
        rw [ht] at h
        cases hx : x.eqv y <;> rw [hx] at h <;> cases h
      | some c =>
        cases hx : x.eqv y with
        | true =>
          rw [if_pos rfl]
          rw [ht, hx] at h
          cases h
          refine cmps_lex xs ys z b (i + 1) ht fun j h1 h2 => ?_
          have := k (j + 1) (by simpa using h1) (by simpa using h2)
          simp only [List.getD_cons_succ] at this
          rw [show i + 1 + j = i + (j + 1) by omega]
          exact this
        | false =>
          rw [if_neg Bool.false_ne_true]
          rw [ht, hx] at h
          have h' : D.cmp o n x y = some b := h
          rw [h']
          rfl
    · rw [if_neg p] at h
      cases h
theorem readsAll_at {h : Heap} : ∀ {us : List Value} {l : List D} {as : List Addr}, ReadsAll h us (D.pds l) as → us.length = l.length ∧ ∀ j (hj : j < us.length), ∃ bs, Reads h us[j] (l.getD j .non).pd bs
  | [], [], _, _ => ⟨rfl, fun j hj => by simp at hj⟩
  | [], _ :: _, _, r => by
    simp only [D.pds] at r
    cases r
  | _ :: _, [], _, r => by
    simp only [D.pds] at r
    cases r
  | u :: us, d :: l, _, r => by
    simp only [D.pds] at r
    cases r with
    | cons r1 r2 =>
      obtain ⟨e, k⟩ := readsAll_at r2
      refine ⟨by simp [e], fun j hj => ?_⟩
      cases j with
      | zero => exact ⟨_, r1⟩
      | succ j => simpa using k j (by simpa using hj)
theorem cmp_run (o : Ord3) : ∀ (n : Nat) (d d' : D) (b : Bool), D.cmp o n d d' = some b → ∀ (A : Around) (s : Shared) (u u' : Value) (as bs : List Addr), Reads s.heap u d.pd as → Reads s.heap u' d'.pd bs → A.units + n + 30 < cLine → Ob.RcOp o.op A s u u' b := by
  have int_case : ∀ (i j : Int) (b : Bool), some (o.int i j) = some b → ∀ (A : Around) (s : Shared) (u u' : Value) (as bs : List Addr), Reads s.heap u (D.int i).pd as → Reads s.heap u' (D.int j).pd bs → Ob.RcOp o.op A s u u' b := by
    intro i j b h A s u u' as bs r r'
    cases h
    cases r
    cases r'
    cases o with
    | lt => exact Ob.RcOp.lt_int _ _ _ _
    | le => exact Ob.RcOp.le_int _ _ _ _
    | gt => exact Ob.RcOp.gt_int _ _ _ _
  intro n
  induction n with
  | zero =>
    intro d d' b h A s u u' as bs r r' hu
    cases d <;> cases d' <;> simp only [D.cmp] at h <;> first | (cases h; done) | exact int_case _ _ _ h A s u u' as bs r r'
  | succ n ih =>
    intro d d' b h A s u u' as bs r r' hu
    cases d with
    | int i =>
      cases d' with
      | int j => exact int_case _ _ _ (by simpa only [D.cmp] using h) A s u u' as bs r r'
      | _ => simp [D.cmp] at h
    | tup l =>
      cases d' with
      | tup m =>
        simp only [D.cmp] at h
        simp only [D.pd] at r r'
        cases r with
        | @tuple a oa vs na _ _ ho hc hd hr =>
          cases r' with
          | @tuple a' oa' vs' na' _ _ ho' hc' hd' hr' =>
            obtain ⟨e1, k1⟩ := readsAll_at hr
            obtain ⟨e2, k2⟩ := readsAll_at hr'
            have all := cmps_all l m _ b h
            have s1 : vs.size = l.length := by simpa using e1
            have s2 : vs'.size = m.length := by simpa using e2
            have lex := cmps_lex (e := fun j => (l.getD j .non).eqv (m.getD j .non)) (r := fun j => (D.cmp o n (l.getD j .non) (m.getD j .non)).getD false) l m _ b 0 h (fun j _ _ => by simp)
            have he : ∀ j (h1 : j < vs.size) (h2 : j < vs'.size), SeqAt.EqAt A.in1 s vs[j] vs'[j] ((l.getD j .non).eqv (m.getD j .non)) := fun j h1 h2 => by
              obtain ⟨p1, p2, _⟩ := all j (by omega) (by omega)
              obtain ⟨cs, q1⟩ := k1 j (by simpa using h1)
              obtain ⟨cs', q2⟩ := k2 j (by simpa using h2)
              obtain ⟨y1, y2⟩ := plain_lay _ _ p1
              obtain ⟨y3, y4⟩ := plain_lay _ _ p2
              have q1' : Reads s.heap vs[j] (l.getD j .non).pd cs := by simpa using q1
              have q2' : Reads s.heap vs'[j] (m.getD j .non).pd cs' := by simpa using q2
              have z := SeqAt.eqAt_reads _ _ A.in1 s _ _ _ _ q1' q2' y1 y3 (by have : A.in1.units = A.units + 1 := rfl; omega)
              rw [eqv_pd _ _ _ _ p1 p2] at z
              exact z
            have hr2 : ∀ j (h1 : j < vs.size) (h2 : j < vs'.size), (l.getD j .non).eqv (m.getD j .non) = false → Ob.RcOp o.op A.in1 s vs[j] vs'[j] ((D.cmp o n (l.getD j .non) (m.getD j .non)).getD false) := fun j h1 h2 e0 => by
              obtain ⟨p1, p2, p3⟩ := all j (by omega) (by omega)
              obtain ⟨c, hc0⟩ := p3 e0
              obtain ⟨cs, q1⟩ := k1 j (by simpa using h1)
              obtain ⟨cs', q2⟩ := k2 j (by simpa using h2)
              have q1' : Reads s.heap vs[j] (l.getD j .non).pd cs := by simpa using q1
              have q2' : Reads s.heap vs'[j] (m.getD j .non).pd cs' := by simpa using q2
              rw [hc0]
              exact ih _ _ c hc0 A.in1 s _ _ _ _ q1' q2' (by have : A.in1.units = A.units + 1 := rfl; omega)
            have T1 : s.heap.IsTuple a vs := ⟨oa, ho, hc, na, hd⟩
            have T2 : s.heap.IsTuple a' vs' := ⟨oa', ho', hc', na', hd'⟩
            rw [← lex]
            cases o with
            | lt =>
              have z := Ob.RcOp.tuples_lt (A := A) (s := s) T1 T2 (by omega) he hr2
              rw [s1, s2] at z
              exact z
            | le =>
              have z := Ob.RcOp.tuples_le (A := A) (s := s) T1 T2 (by omega) he hr2
              rw [s1, s2] at z
              exact z
            | gt =>
              have z := Ob.RcOp.tuples_gt (A := A) (s := s) T1 T2 (by omega) he hr2
              rw [s1, s2] at z
              exact z
      | _ => simp [D.cmp] at h
    | _ => simp [D.cmp] at h
def ordF (o : Ord3) (d e : D) : Option D := if d.plain 20 && e.plain 20 then (D.cmp o 10 d e).map D.bl else none
def rOrd (K : PySem.W.Frag) (o : Ord3) : R2 := fun x y H Q => ∃ (d d' : D) (b : Bool), Dp K H x d.pd ∧ Dp K H y d'.pd ∧ D.cmp o 10 d d' = some b ∧ Q (.bl b) H
theorem plain_up : ∀ (d : D) (n m : Nat), n ≤ m → d.plain n = true → d.plain m = true := by
  have main : ∀ (m : Nat), (∀ (d : D) (n : Nat), n ≤ m → d.plain n = true → d.plain m = true) := by
    intro m
    induction m with
    | zero =>
      intro d n h p
      have : n = 0 := by omega
      subst this
      exact p
    | succ m ih =>
      have lst : ∀ (l : List D) (n : Nat), n ≤ m → D.plains n l = true → D.plains m l = true := by
        intro l
        induction l with
        | nil => intro n _ _; rfl
        | cons x xs ihl =>
          intro n h p
          simp only [D.plains, Bool.and_eq_true] at p ⊢
          exact ⟨ih x n h p.1, ihl n h p.2⟩
      intro d n h p
      cases d with
      | tup l =>
        cases n with
        | zero => simp [D.plain] at p
        | succ n =>
          simp only [D.plain] at p ⊢
          exact lst l n (by omega) p
      | lst l =>
        cases n with
        | zero => simp [D.plain] at p
        | succ n =>
          simp only [D.plain] at p ⊢
          exact lst l n (by omega) p
      | _ => first | rfl | exact p | simp_all [D.plain]
  exact fun d n m h p => main m d n h p
section
variable {X : Cx} {W : WX} {a b : Expr} {ma mb : M Ref} {pos : Pos}
theorem op_ord (o : Ord3) (hu : X.A.units + 64 < cLine) : OpR X (compareOp o.op) (rOrd X.K o) := by
  intro pins s σ H x y v u Q I rx ry h
  obtain ⟨d, e, c, hd, he, hc, q⟩ := h
  obtain ⟨as, r1⟩ := Dp.reads I d.pd x v hd rx
  obtain ⟨bs, r2⟩ := Dp.reads I e.pd y u he ry
  have z := cmp_run o 10 d e c hc X.A s v u as bs r1 r2 (by omega) X.prog X.w X.xe (EP X pins σ Q) ⟨.bl c, H, I, rfl, q⟩
  cases o <;> exact z
theorem ops_ord (o : Ord3) : OpS X.w X.K (rOrd X.K o) (ordF o) := by
  intro ra HK F e σ H x y d d' z Q R hx hy hz q
  unfold ordF at hz
  by_cases c : (d.plain 20 && d'.plain 20) = true
  · rw [if_pos c] at hz
    obtain ⟨c1, c2⟩ := Bool.and_eq_true_iff.mp c
    cases hb : D.cmp o 10 d d' with
    | none =>
      rw [hb] at hz
      cases hz
    | some b =>
      rw [hb] at hz
      cases hz
      exact ⟨d, d', b, hx.dp R.fh (plain_up _ _ _ (by omega) c1), hy.dp R.fh (plain_up _ _ _ (by omega) c2), hb, q _ F H (Same.refl F) R (.bl _)⟩
  · rw [if_neg c] at hz
    cases hz
theorem pm_lt (hu : X.A.units + 64 < cLine) (ha : PMR X W a ma) (hb : PMR X W b mb) : PM X W (.Compare a [.Lt] [b] pos) (op2M ma mb (ordF .lt)) := pm_cmp (op_ord .lt hu) (ops_ord .lt) ha hb (nomark _)
theorem pm_le (hu : X.A.units + 64 < cLine) (ha : PMR X W a ma) (hb : PMR X W b mb) : PM X W (.Compare a [.LtE] [b] pos) (op2M ma mb (ordF .le)) := pm_cmp (op_ord .le hu) (ops_ord .le) ha hb (nomark _)
theorem pmt_lt (hu : X.A.units + 64 < cLine) (ha : PMR X W a ma) (hb : PMR X W b mb) : PMT X W (.Compare a [.Lt] [b] pos) (testM (op2M ma mb (ordF .lt))) := pmt_cmp (op_ord .lt hu) (ops_ord .lt) ha hb (nomark _)
theorem pmt_le (hu : X.A.units + 64 < cLine) (ha : PMR X W a ma) (hb : PMR X W b mb) : PMT X W (.Compare a [.LtE] [b] pos) (testM (op2M ma mb (ordF .le))) := pmt_cmp (op_ord .le hu) (ops_ord .le) ha hb (nomark _)
theorem pmt_gt (hu : X.A.units + 64 < cLine) (ha : PMR X W a ma) (hb : PMR X W b mb) : PMT X W (.Compare a [.Gt] [b] pos) (testM (op2M ma mb (ordF .gt))) := pmt_cmp (op_ord .gt hu) (ops_ord .gt) ha hb (nomark _)
def geF : D → D → Option D := cmpF fun i j => decide (j ≤ i)
theorem pm_ge (ha : PMR X W a ma) (hb : PMR X W b mb) : PM X W (.Compare a [.GtE] [b] pos) (op2M ma mb geF) := pm_cmp op_ge ops_cmp ha hb (nomark _)
theorem pmt_ge (ha : PMR X W a ma) (hb : PMR X W b mb) : PMT X W (.Compare a [.GtE] [b] pos) (testM (op2M ma mb geF)) := pmt_cmp op_ge ops_cmp ha hb (nomark _)
theorem pm_eq (hu : X.A.units + 64 < cLine) (ha : PMR X W a ma) (hb : PMR X W b mb) : PM X W (.Compare a [.Eq] [b] pos) (op2M ma mb eqF) := pm_cmp (op_eqD hu) ops_eq ha hb (nomark _)
theorem pm_ne (hu : X.A.units + 64 < cLine) (ha : PMR X W a ma) (hb : PMR X W b mb) : PM X W (.Compare a [.NotEq] [b] pos) (op2M ma mb neF) := pm_cmp (op_neD hu) ops_ne ha hb (nomark _)
theorem pmt_eq (hu : X.A.units + 64 < cLine) (ha : PMR X W a ma) (hb : PMR X W b mb) : PMT X W (.Compare a [.Eq] [b] pos) (testM (op2M ma mb eqF)) := pmt_cmp (op_eqD hu) ops_eq ha hb (nomark _)
theorem pmt_ne (hu : X.A.units + 64 < cLine) (ha : PMR X W a ma) (hb : PMR X W b mb) : PMT X W (.Compare a [.NotEq] [b] pos) (testM (op2M ma mb neF)) := pmt_cmp (op_neD hu) ops_ne ha hb (nomark _)
end
end Mi

set_option Elab.async false
set_option linter.all false
set_option maxRecDepth 100000
set_option maxHeartbeats 4000000
/-! Mi, part F: dicts with nested keys, or with numbers as keys. -/
namespace Mi
open PySem PySem.Spec PyProof.Rows L2

/-! ### the mirror's dicts -/
def sameKey (d e : D) : Bool := match d, e with
  | .tup _, .tup _ => true
  | .int _, .int _ => true
  | _, _ => false
def kindOk (kvs : List (D × D)) (k : D) : Bool := match kvs with
  | [] => sameKey k k
  | p :: _ => sameKey p.1 k
def dget (kvs : List (D × D)) (k : D) : Option D := (kvs.find? fun p => decide (p.1.hk = k.hk)).map (·.2)
def dput (kvs : List (D × D)) (k v : D) : List (D × D) :=
  if (kvs.any fun p => decide (p.1.hk = k.hk)) = true then kvs.map (fun p => if p.1.hk = k.hk then (p.1, v) else p) else kvs ++ [(k, v)]
/-! ### .. by machine values -/
def eget (es : List (NestedKey × V × V)) (k : NestedKey) : Option V := (es.find? fun e => decide (e.1 = k)).map (·.2.2)
def eput (es : List (NestedKey × V × V)) (k : NestedKey) (kv vv : V) : List (NestedKey × V × V) :=
  if (es.any fun e => decide (e.1 = k)) = true then es.map (fun e => if e.1 = k then (e.1, e.2.1, vv) else e) else es ++ [(k, kv, vv)]
theorem eget_cons {e : NestedKey × V × V} {es : List (NestedKey × V × V)} {k : NestedKey} : eget (e :: es) k = if e.1 = k then some e.2.2 else eget es k := by
  unfold eget
  rw [List.find?_cons]
  by_cases c : e.1 = k
  · rw [decide_eq_true c, if_pos c]
    rfl
  · rw [decide_eq_false c, if_neg c]
theorem dget_cons {p : D × D} {kvs : List (D × D)} {k : D} : dget (p :: kvs) k = if p.1.hk = k.hk then some p.2 else dget kvs k := by
  unfold dget
  rw [List.find?_cons]
  by_cases c : p.1.hk = k.hk
  · rw [decide_eq_true c, if_pos c]
    rfl
  · rw [decide_eq_false c, if_neg c]
section
variable {w : World} {K : PySem.W.Frag} {ra : Addr} {F : Hp}
theorem RepE.get : ∀ {es : List (NestedKey × V × V)} {kvs : List (D × D)} {dk : D} {k : NestedKey}, RepE w K ra F es kvs → dk.hk = some k →
    (∀ dv, dget kvs dk = some dv → ∃ vv, eget es k = some vv ∧ Rep w K ra F vv dv) ∧ (dget kvs dk = none → eget es k = none)
  | _, _, dk, k, .nil, h => ⟨fun dv e => (by cases e), fun _ => rfl⟩
  | _, _, dk, k, .cons (k := k') (dk := dk') hk h1 h2 r, h => by
    rw [dget_cons, eget_cons]
    obtain ⟨i1, i2⟩ := RepE.get r h
    by_cases c : k' = k
    · have c' : dk'.hk = dk.hk := by rw [hk, h, c]
      rw [if_pos c, if_pos c']
      exact ⟨fun dv e => by cases e; exact ⟨_, rfl, h2⟩, fun e => by cases e⟩
    · have c' : ¬ dk'.hk = dk.hk := fun z => c (by rw [hk, h] at z; exact Option.some.inj z)
      rw [if_neg c, if_neg c']
      exact ⟨i1, i2⟩
theorem RepE.any : ∀ {es : List (NestedKey × V × V)} {kvs : List (D × D)} {dk : D} {k : NestedKey}, RepE w K ra F es kvs → dk.hk = some k →
    (es.any fun e => decide (e.1 = k)) = (kvs.any fun p => decide (p.1.hk = dk.hk))
  | _, _, dk, k, .nil, h => rfl
  | _, _, dk, k, .cons (k := k') (dk := dk') hk h1 h2 r, h => by
    rw [List.any_cons, List.any_cons, RepE.any r h]
    have : decide (k' = k) = decide (dk'.hk = dk.hk) := by
      rw [hk, h]
      by_cases c : k' = k
      · rw [decide_eq_true c, decide_eq_true (congrArg some c)]
      · rw [decide_eq_false c, decide_eq_false fun z => c (Option.some.inj z)]
    rw [this]
theorem RepE.repl : ∀ {es : List (NestedKey × V × V)} {kvs : List (D × D)} {dk : D} {k : NestedKey} {vv : V} {dv : D}, RepE w K ra F es kvs → dk.hk = some k → Rep w K ra F vv dv →
    RepE w K ra F (es.map fun e => if e.1 = k then (e.1, e.2.1, vv) else e) (kvs.map fun p => if p.1.hk = dk.hk then (p.1, dv) else p)
  | _, _, dk, k, vv, dv, .nil, h, hv => .nil
  | _, _, dk, k, vv, dv, .cons (k := k') (dk := dk') hk h1 h2 r, h, hv => by
    rw [List.map_cons, List.map_cons]
    by_cases c : k' = k
    · have c' : dk'.hk = dk.hk := by rw [hk, h, c]
      rw [if_pos c, if_pos c']
      exact .cons hk h1 hv (RepE.repl r h hv)
    · have c' : ¬ dk'.hk = dk.hk := fun z => c (by rw [hk, h] at z; exact Option.some.inj z)
      rw [if_neg c, if_neg c']
      exact .cons hk h1 h2 (RepE.repl r h hv)
theorem RepE.snoc : ∀ {es : List (NestedKey × V × V)} {kvs : List (D × D)} {dk dv : D} {k : NestedKey} {kv vv : V}, RepE w K ra F es kvs → dk.hk = some k → Rep w K ra F kv dk → Rep w K ra F vv dv →
    RepE w K ra F (es ++ [(k, kv, vv)]) (kvs ++ [(dk, dv)])
  | _, _, _, _, _, _, _, .nil, h, h1, h2 => .cons h h1 h2 .nil
  | _, _, _, _, _, _, _, .cons a b c r, h, h1, h2 => .cons a b c (RepE.snoc r h h1 h2)
theorem RepE.put {es : List (NestedKey × V × V)} {kvs : List (D × D)} {dk dv : D} {k : NestedKey} {kv vv : V} (r : RepE w K ra F es kvs) (h : dk.hk = some k) (h1 : Rep w K ra F kv dk) (h2 : Rep w K ra F vv dv) :
    RepE w K ra F (eput es k kv vv) (dput kvs dk dv) := by
  unfold eput dput
  rw [r.any h]
  by_cases c : (kvs.any fun p => decide (p.1.hk = dk.hk)) = true
  · rw [if_pos c, if_pos c]
    exact r.repl h h2
  · rw [if_neg c, if_neg c]
    exact r.snoc h h1 h2
theorem eput_len (es : List (NestedKey × V × V)) (k : NestedKey) (kv vv : V) : (eput es k kv vv).length ≤ es.length + 1 := by
  unfold eput
  split
  · rw [List.length_map]
    omega
  · rw [List.length_append]
    exact Nat.le_refl _
theorem eput_keys (es : List (NestedKey × V × V)) (k : NestedKey) (kv vv : V) : (es.map (·.1)).Nodup → ((eput es k kv vv).map (·.1)).Nodup := by
  intro h
  unfold eput
  by_cases c : (es.any fun e => decide (e.1 = k)) = true
  · rw [if_pos c, List.map_map]
    have : (fun e : NestedKey × V × V => e.1) ∘ (fun e => if e.1 = k then (e.1, e.2.1, vv) else e) = fun e => e.1 := by
      funext e
      simp only [Function.comp]
      split <;> rfl
    rw [this]
    exact h
  · rw [if_neg c, List.map_append, List.nodup_append]
    refine ⟨h, by simp, fun a ha b hb => ?_⟩
    have hb' : b = k := by simpa using hb
    subst hb'
    intro e
    subst e
    obtain ⟨x, hx, ex⟩ := List.mem_map.mp ha
    exact c (List.any_eq_true.mpr ⟨x, hx, decide_eq_true ex⟩)
end

/-! ### two sorts of keys -/
def ER (e : NestedKey × V × V) (x : NestedKey × Addr × Value) : Prop := e.1 = x.1 ∧ e.2.1 = .ref x.2.1 ∧ RelV e.2.2 x.2.2
def IR (e : NestedKey × V × V) (q : Int × Value) : Prop := e.1 = .num q.1 ∧ e.2.1 = .int q.1 ∧ RelV e.2.2 q.2
theorem ER.get {k : NestedKey} : ∀ {es : List (NestedKey × V × V)} {xs : List (NestedKey × Addr × Value)}, Paired ER es xs → (∀ vv, eget es k = some vv → ∃ p, atKey xs k = some p ∧ RelV vv p.2) ∧ (eget es k = none → atKey xs k = none)
  | _, _, .nil => ⟨fun vv e => (by cases e), fun _ => rfl⟩
  | e :: es, x :: xs, .cons h r => by
    obtain ⟨i1, i2⟩ := ER.get r
    obtain ⟨h1, h2, h3⟩ := h
    rw [eget_cons]
    by_cases c : e.1 = k
    · have b : atKey (x :: xs) k = some x.2 := by simp [atKey, List.find?_cons, h1 ▸ c]
      rw [if_pos c, b]
      exact ⟨fun vv q => by cases q; exact ⟨_, rfl, h3⟩, fun q => by cases q⟩
    · have c' : ¬ x.1 = k := fun z => c (h1.trans z)
      have b : atKey (x :: xs) k = atKey xs k := by simp [atKey, List.find?_cons, c']
      rw [if_neg c, b]
      exact ⟨i1, i2⟩
theorem IR.get {k : Int} : ∀ {es : List (NestedKey × V × V)} {xs : List (Int × Value)}, Paired IR es xs → (∀ vv, eget es (.num k) = some vv → ∃ p, valueAt xs k = some p ∧ RelV vv p) ∧ (eget es (.num k) = none → valueAt xs k = none)
  | _, _, .nil => ⟨fun vv e => (by cases e), fun _ => rfl⟩
  | e :: es, x :: xs, .cons h r => by
    obtain ⟨i1, i2⟩ := IR.get r
    obtain ⟨h1, h2, h3⟩ := h
    rw [eget_cons]
    by_cases c : e.1 = .num k
    · have c' : x.1 = k := by rw [h1] at c; injection c
      have b : valueAt (x :: xs) k = some x.2 := by simp [valueAt, List.find?_cons, c']
      rw [if_pos c, b]
      exact ⟨fun vv q => by cases q; exact ⟨_, rfl, h3⟩, fun q => by cases q⟩
    · have c' : ¬ x.1 = k := fun z => c (by rw [h1, z])
      have b : valueAt (x :: xs) k = valueAt xs k := by simp [valueAt, List.find?_cons, c']
      rw [if_neg c, b]
      exact ⟨i1, i2⟩
theorem paired_snoc {α β : Type} {R : α → β → Prop} : ∀ {l : List α} {m : List β} {a : α} {b : β}, Paired R l m → R a b → Paired R (l ++ [a]) (m ++ [b])
  | _, _, _, _, .nil, h => .cons h .nil
  | _, _, _, _, .cons h r, q => .cons h (paired_snoc r q)
theorem ER.put {k : NestedKey} {a : Addr} {vv : V} {u : Value} (hv : RelV vv u) {es : List (NestedKey × V × V)} {xs : List (NestedKey × Addr × Value)} (r : Paired ER es xs) : Paired ER (eput es k (.ref a) vv) (storedH xs k a u) := by
  have anyE : (es.any fun e => decide (e.1 = k)) = (atKey xs k).isSome := by
    induction r with
    | nil => rfl
    | @cons e x es xs h t ih =>
      rw [List.any_cons, ih]
      by_cases c : e.1 = k
      · have b : atKey (x :: xs) k = some x.2 := by simp [atKey, List.find?_cons, h.1 ▸ c]
        rw [decide_eq_true c, b]
        rfl
      · have c' : ¬ x.1 = k := fun z => c (h.1.trans z)
        have b : atKey (x :: xs) k = atKey xs k := by simp [atKey, List.find?_cons, c']
        rw [decide_eq_false c, b, Bool.false_or]
  have repl : Paired ER (es.map fun e => if e.1 = k then (e.1, e.2.1, vv) else e) (xs.map (putAt k u)) := by
    clear anyE
    induction r with
    | nil => exact .nil
    | @cons e x es xs h t ih =>
      rw [List.map_cons, List.map_cons]
      refine .cons ?_ ih
      unfold putAt
      by_cases c : e.1 = k
      · rw [if_pos c, if_pos (h.1.symm.trans c)]
        exact ⟨h.1, h.2.1, hv⟩
      · rw [if_neg c, if_neg fun z => c (h.1.trans z)]
        exact h
  unfold eput storedH
  rw [anyE]
  by_cases c : (atKey xs k).isSome = true
  · rw [if_pos c, if_pos c]
    exact repl
  · rw [if_neg c, if_neg c]
    exact paired_snoc r ⟨rfl, rfl, hv⟩
theorem IR.put {k : Int} {vv : V} {u : Value} (hv : RelV vv u) {es : List (NestedKey × V × V)} {xs : List (Int × Value)} (r : Paired IR es xs) : Paired IR (eput es (.num k) (.int k) vv) (stored xs k u) := by
  have key : ∀ {e : NestedKey × V × V} {x : Int × Value}, IR e x → (e.1 = .num k ↔ x.1 = k) := fun {e x} h => ⟨fun z => by rw [h.1] at z; injection z, fun z => by rw [h.1, z]⟩
  have anyE : (es.any fun e => decide (e.1 = NestedKey.num k)) = (xs.any fun kv => decide (kv.1 = k)) := by
    induction r with
    | nil => rfl
    | @cons e x es xs h t ih =>
      rw [List.any_cons, List.any_cons, ih, decide_eq_decide.mpr (key h)]
  have repl : Paired IR (es.map fun e => if e.1 = NestedKey.num k then (e.1, e.2.1, vv) else e) (xs.map fun kv => if kv.1 = k then (kv.1, u) else kv) := by
    clear anyE
    induction r with
    | nil => exact .nil
    | @cons e x es xs h t ih =>
      rw [List.map_cons, List.map_cons]
      refine .cons ?_ ih
      by_cases c : e.1 = .num k
      · rw [if_pos c, if_pos ((key h).mp c)]
        exact ⟨h.1, h.2.1, hv⟩
      · rw [if_neg c, if_neg fun z => c ((key h).mpr z)]
        exact h
  unfold eput stored
  rw [anyE]
  by_cases c : (xs.any fun kv => decide (kv.1 = k)) = true
  · rw [if_pos c, if_pos c]
    exact repl
  · rw [if_neg c, if_neg c]
    exact paired_snoc r ⟨rfl, rfl, hv⟩

/-! ### to and from the library's dicts -/
section
variable {X : Cx} {pins : List (Addr × Obj)} {σ : L2.St} {H F : Hp} {s : Shared} {ra : Addr}
mutual
theorem Rep.nested (I : Inv X pins σ H s) (fh : Same F H) : ∀ (d : D) {v : V} {k : NestedKey} {u : Value}, Rep X.w X.K ra F v d → d.key = some k → RelV v u → NestedIs s.heap k u
  | .non, v, k, u, r, h, q => by
    cases h
    cases r
    cases q
    exact .none
  | .int i, v, k, u, r, h, q => by
    cases h
    cases r
    obtain ⟨t, rfl⟩ := q
    exact .int i t
  | .str x, v, k, u, r, h, q => by
    cases h
    cases r
    obtain ⟨t, rfl⟩ := q
    exact .text x t
  | .bl b, v, k, u, r, h, q => by
    cases h
    cases r
    cases q
    exact .bool rfl
  | .tup l, v, k, u, r, h, q => by
    simp only [D.key, Option.map_eq_some_iff] at h
    obtain ⟨ks, h1, rfl⟩ := h
    cases r with
    | tup hs ha =>
      cases q
      obtain ⟨its, rv, ⟨o, ho, hc, n, hd⟩, _⟩ := I.tuple (Same.seqT fh hs)
      exact .tup ho hc hd (by simpa using RepA.nested I fh l ha h1 rv)
  | .lst _, _, _, _, _, h, _ => by cases h
  | .dct _, _, _, _, _, h, _ => by cases h
  | .obj _, _, _, _, _, h, _ => by cases h
  | .row, _, _, _, _, h, _ => by cases h
  | .exn _ _ _, _, _, _, _, h, _ => by cases h
theorem RepA.nested (I : Inv X pins σ H s) (fh : Same F H) : ∀ (l : List D) {vs : List V} {ks : List NestedKey} {us : List Value}, RepA X.w X.K ra F vs l → D.keys l = some ks → Vals vs us → NestedAll s.heap ks us
  | [], vs, ks, us, r, h, q => by
    cases h
    cases r
    cases q
    exact .nil
  | d :: ds, vs, ks, us, r, h, q => by
    simp only [D.keys] at h
    cases e1 : d.key with
    | none =>
      rw [e1] at h
      cases h
    | some k =>
      cases e2 : D.keys ds with
      | none =>
        rw [e1, e2] at h
        cases h
      | some ks' =>
        rw [e1, e2] at h
        cases h
        cases r with
        | cons r1 r2 =>
          cases q with
          | cons q1 q2 => exact .cons (Rep.nested I fh d r1 e1 q1) (RepA.nested I fh ds r2 e2 q2)
end
theorem inv_dictP {a : Addr} {es : List (NestedKey × V × V)} (I : Inv X pins σ H s) (h : DictAt X.w H a es) :
    (a == sysModules) = false ∧ es.length ≤ sizeLine ∧ (es.map (·.1)).Nodup ∧ Uni es ∧ ∃ o des ep, s.heap.get? a = some o ∧ o.ExactDict ∧ o.data = .dict des ep ∧ Paired (DEnt X.w) es des.toList ∧ H a = some (objO a o) := by
  obtain ⟨o, h1, p1, p2, p3, p4, hc, des, ep, hd, pr⟩ := h
  exact ⟨p1, p2, p3, p4, o, des, ep, (show ObjOk X.prog X.w H s.heap a (objO a o) from I.hok a _ h1).1, hc, hd, pr, h1⟩
theorem obj_ok {P : Program} {w : World} {H' : Hp} {h' : Heap} {a : Addr} {o : Obj} (h : h'.get? a = some o) : ObjOk P w H' h' a (objO a o) := ⟨h, ⟨o, h⟩, fun _ _ q k => k _ q⟩
theorem refs_of {w : World} {P : Program} : ∀ {es : List (NestedKey × V × V)} {des : List DictEntry}, Paired (DEnt w) es des → (∀ e ∈ es, ∃ a, e.2.1 = .ref a) → ∃ xs : List (NestedKey × Addr × Value), Paired ER es xs ∧ des = xs.map (entryOfKey (nestedKind P w))
  | _, _, .nil, _ => ⟨[], .nil, rfl⟩
  | e :: es, de :: des, .cons h r, k => by
    obtain ⟨xs, h1, h2⟩ := refs_of (P := P) r fun x hx => k x (List.mem_cons_of_mem _ hx)
    obtain ⟨a, ea⟩ := k e List.mem_cons_self
    obtain ⟨g1, g2, g3⟩ := h
    rw [ea] at g2
    have g2' : de.key = .ref a := g2
    refine ⟨(e.1, a, de.val) :: xs, .cons ⟨rfl, ea, g3⟩ h1, ?_⟩
    rw [List.map_cons, h2]
    congr 1
    obtain ⟨hh, kk, vv⟩ := de
    show DictEntry.mk hh kk vv = ⟨(nestedKind P w).hash e.1, .ref a, vv⟩
    have e1 : hh = e.1.hash w := g1
    have e2 : kk = .ref a := g2'
    rw [e1, e2]
    rfl
theorem ents_refs {w : World} {P : Program} : ∀ {es : List (NestedKey × V × V)} {xs : List (NestedKey × Addr × Value)}, Paired ER es xs → Paired (DEnt w) es (xs.map (entryOfKey (nestedKind P w))) ∧ ∀ e ∈ es, ∃ a, e.2.1 = .ref a
  | _, _, .nil => ⟨.nil, fun e h => by cases h⟩
  | e :: es, x :: xs, .cons h r => by
    obtain ⟨h1, h2⟩ := ents_refs (P := P) (w := w) r
    obtain ⟨g1, g2, g3⟩ := h
    refine ⟨.cons ⟨by rw [g1]; rfl, by rw [g2]; rfl, g3⟩ h1, fun y hy => ?_⟩
    rcases List.mem_cons.mp hy with z | hy
    · subst z
      exact ⟨_, g2⟩
    · exact h2 y hy
theorem ints_of {w : World} {K : PySem.W.Frag} {P : Program} : ∀ {es : List (NestedKey × V × V)} {kvs : List (D × D)} {des : List DictEntry}, RepE w K ra F es kvs → Paired (DEnt w) es des → (∀ e ∈ es, ∃ i, e.2.1 = .int i) → ∃ xs : List (Int × Value), Paired IR es xs ∧ Pairs (PySem.intKind P w) des xs ∧ ∀ de ∈ des, ∃ k, (PySem.intKind P w).is k de.key = true ∧ de.hash = (PySem.intKind P w).hash k
  | _, _, _, .nil, .nil, _ => ⟨[], .nil, .nil, fun _ h => by cases h⟩
  | e :: es, _, de :: des, .cons hk r1 r2 rr, .cons h r, k => by
    obtain ⟨xs, h1, h2, h3⟩ := ints_of (P := P) rr r fun x hx => k x (List.mem_cons_of_mem _ hx)
    obtain ⟨i, ei⟩ := k _ List.mem_cons_self
    obtain ⟨g1, g2, g3⟩ := h
    rw [ei] at g2
    obtain ⟨t, g2'⟩ := (show ∃ t, de.key = .int i t from g2)
    have ek : e.1 = .num i := by
      have hk1 := (hk_of hk).1
      rw [show _ = V.int i from ei] at r1
      cases r1
      simp [D.key] at hk1
      exact hk1.symm
    have isk : (PySem.intKind P w).is i de.key = true := by
      rw [g2']
      show Value.isInt i (.int i t) = true
      simp [Value.isInt]
    refine ⟨(i, de.val) :: xs, .cons ⟨ek, ei, g3⟩ h1, .cons isk rfl h2, fun x hx => ?_⟩
    rcases List.mem_cons.mp hx with z | hx
    · subst z
      exact ⟨i, isk, by rw [g1, ek]; rfl⟩
    · exact h3 x hx
theorem ents_ints {w : World} {P : Program} : ∀ {es : List (NestedKey × V × V)} {xs : List (Int × Value)} {des : List DictEntry}, Paired IR es xs → Pairs (PySem.intKind P w) des xs → (∀ de ∈ des, ∃ k, (PySem.intKind P w).is k de.key = true ∧ de.hash = (PySem.intKind P w).hash k) →
    Paired (DEnt w) es des ∧ ∀ e ∈ es, ∃ a, e.2.1 = .int a
  | _, _, _, .nil, .nil, _ => ⟨.nil, fun e h => by cases h⟩
  | e :: es, x :: xs, de :: des, .cons h r, .cons q1 q2 q3, k => by
    obtain ⟨h1, h2⟩ := ents_ints r q3 fun y hy => k y (List.mem_cons_of_mem _ hy)
    obtain ⟨g1, g2, g3⟩ := h
    obtain ⟨k', k1, k2⟩ := k de List.mem_cons_self
    have ek : k' = x.1 := (PySem.intKind P w).inj _ _ _ k1 q1
    obtain ⟨t, et⟩ := Value.isInt_shape (show Value.isInt x.1 de.key = true from q1)
    refine ⟨.cons ⟨by rw [g1, k2, ek]; rfl, by rw [g2, et]; exact ⟨t, rfl⟩, by rw [q2]; exact g3⟩ h1, fun y hy => ?_⟩
    rcases List.mem_cons.mp hy with z | hy
    · subst z
      exact ⟨_, g2⟩
    · exact h2 y hy
theorem RepE.all_nested (I : Inv X pins σ H s) (fh : Same F H) : ∀ {es : List (NestedKey × V × V)} {kvs : List (D × D)} {xs : List (NestedKey × Addr × Value)}, RepE X.w X.K ra F es kvs → Paired ER es xs → ∀ x ∈ xs, (nestedKind X.prog X.w).is s.heap x.1 x.2.1
  | _, _, _, .nil, .nil, x, hx => by cases hx
  | _, _, _, .cons hk r1 r2 rr, .cons h r, x, hx => by
    rcases List.mem_cons.mp hx with z | hx
    · subst z
      obtain ⟨g1, g2, g3⟩ := h
      obtain ⟨k1, k2⟩ := hk_of hk
      have g2' : _ = V.ref x.2.1 := g2
      subst g2'
      have g1' : _ = x.1 := g1
      subst g1'
      exact ⟨Rep.nested I fh _ r1 k1 rfl, k2⟩
    · exact RepE.all_nested I fh rr r x hx
/-- the dict as the library has it -/
theorem inv_dictRef {a : Addr} {es : List (NestedKey × V × V)} {kvs : List (D × D)} (I : Inv X pins σ H s) (fh : Same F H) (h : DictAt X.w H a es) (r : RepE X.w X.K ra F es kvs) (hr : ∀ e ∈ es, ∃ a, e.2.1 = .ref a) :
    ∃ xs, Paired ER es xs ∧ s.heap.DictOfH (nestedKind X.prog X.w) a xs ∧ (a == sysModules) = false ∧ es.length ≤ sizeLine := by
  obtain ⟨p1, p2, p3, p4, o, des, ep, ho, hc, hd, pr, _⟩ := inv_dictP I h
  obtain ⟨xs, x1, x2⟩ := refs_of (P := X.prog) pr hr
  refine ⟨xs, x1, ⟨o, des, ep, ho, hc, hd, x2, RepE.all_nested I fh r x1, ?_⟩, p1, p2⟩
  have : xs.map (·.1) = es.map (·.1) := by
    clear x2 pr r hr p2 p3 p4 h
    induction x1 with
    | nil => rfl
    | cons h t ih => rw [List.map_cons, List.map_cons, ih, h.1]
  rw [this]
  exact p3
theorem inv_dictInt {a : Addr} {es : List (NestedKey × V × V)} {kvs : List (D × D)} (I : Inv X pins σ H s) (h : DictAt X.w H a es) (r : RepE X.w X.K ra F es kvs) (hr : ∀ e ∈ es, ∃ a, e.2.1 = .int a) :
    ∃ xs, Paired IR es xs ∧ s.heap.DictOf (PySem.intKind X.prog X.w) a xs ∧ (a == sysModules) = false ∧ es.length ≤ sizeLine := by
  obtain ⟨p1, p2, p3, p4, o, des, ep, ho, hc, hd, pr, _⟩ := inv_dictP I h
  obtain ⟨xs, x1, x2, x3⟩ := ints_of (P := X.prog) r pr hr
  refine ⟨xs, x1, ⟨o, des, ep, ho, hc, hd, fun e he => x3 e (by simpa using he), x2, ?_⟩, p1, p2⟩
  have : es.map (·.1) = (xs.map (·.1)).map NestedKey.num := by
    clear x2 x3 pr r hr p2 p3 p4 h
    induction x1 with
    | nil => rfl
    | cons h t ih => rw [List.map_cons, List.map_cons, List.map_cons, ih, h.1]
  rw [this] at p3
  exact List.Pairwise.of_map _ (fun a b (z : NestedKey.num a ≠ NestedKey.num b) e => z (by rw [e])) p3
theorem df_refs {P : Program} {w : World} {a : Addr} {es : List (NestedKey × V × V)} {xs : List (NestedKey × Addr × Value)} {h' : Heap} (x : Paired ER es xs) (hm : h'.DictOfH (nestedKind P w) a xs) (p1 : (a == sysModules) = false) (p2 : es.length ≤ sizeLine) (p3 : (es.map (·.1)).Nodup) : ∃ o, h'.get? a = some o ∧ DF w a es o := by
  obtain ⟨o, des, ep, ho, hc, hd, hx, _, _⟩ := hm
  obtain ⟨y1, y2⟩ := ents_refs (P := P) (w := w) x
  exact ⟨o, ho, p1, p2, p3, .inl y2, hc, des, ep, hd, by rw [hx]; exact y1⟩
theorem df_ints {P : Program} {w : World} {a : Addr} {es : List (NestedKey × V × V)} {xs : List (Int × Value)} {h' : Heap} (x : Paired IR es xs) (hm : h'.DictOf (PySem.intKind P w) a xs) (p1 : (a == sysModules) = false) (p2 : es.length ≤ sizeLine) (p3 : (es.map (·.1)).Nodup) : ∃ o, h'.get? a = some o ∧ DF w a es o := by
  obtain ⟨o, des, ep, ho, hc, hd, hk, hx, _⟩ := hm
  obtain ⟨y1, y2⟩ := ents_ints (P := P) (w := w) x hx fun de h => hk de (by simpa using h)
  exact ⟨o, ho, p1, p2, p3, .inr y2, hc, des, ep, hd, y1⟩
end
end Mi

set_option Elab.async false
set_option linter.all false
set_option maxRecDepth 100000
set_option maxHeartbeats 4000000
/-! Mi, part G: in, subscripts, slices, len. -/
namespace Mi
open PySem PySem.Spec PyProof.Rows L2

section
variable {w : World} {K : PySem.W.Frag} {ra : Addr} {F : Hp}
theorem uni_refs {es : List (NestedKey × V × V)} {kvs : List (D × D)} {l : List D} (r : RepE w K ra F es kvs) (u : Uni es) (k : kindOk kvs (.tup l) = true) : ∀ e ∈ es, ∃ a, e.2.1 = .ref a := by
  cases r with
  | nil => exact fun e h => by cases h
  | @cons k0 kv vv dk dv es kvs hk r1 r2 rr =>
    cases dk with
    | tup m =>
      rcases u with u | u
      · exact u
      · obtain ⟨i, ei⟩ := u _ List.mem_cons_self
        cases r1
        cases ei
    | _ => cases k
theorem uni_ints {es : List (NestedKey × V × V)} {kvs : List (D × D)} {i : Int} (r : RepE w K ra F es kvs) (u : Uni es) (k : kindOk kvs (.int i) = true) : ∀ e ∈ es, ∃ a, e.2.1 = .int a := by
  cases r with
  | nil => exact fun e h => by cases h
  | @cons k0 kv vv dk dv es kvs hk r1 r2 rr =>
    cases dk with
    | int m =>
      rcases u with u | u
      · obtain ⟨a, ea⟩ := u _ List.mem_cons_self
        cases r1
        cases ea
      · exact u
    | _ => cases k
end
/-- a dict as a rule sees it -/
structure DAt (w : World) (K : PySem.W.Frag) (ra : Addr) (F H : Hp) (y : V) (a : Addr) (es : List (NestedKey × V × V)) (kvs : List (D × D)) : Prop where
  eq : y = .ref a
  fh : Same F H
  at_ : DictAt w H a es
  rep : RepE w K ra F es kvs
theorem Held.dat {w : World} {K : PySem.W.Frag} {ra : Addr} {F H : Hp} (fh : Same F H) {v : V} {kvs : List (D × D)} (h : Held w K ra F H v (.dct kvs)) : ∃ a es, DAt w K ra F H v a es kvs := by
  obtain ⟨a, es, h1, h2, h3⟩ := h.dct fh
  exact ⟨a, es, h1, fh, h2, h3⟩
section
variable {X : Cx}
/-- k in d -/
def rInN (w : World) (K : PySem.W.Frag) (neg : Bool) : R2 := fun x y H Q => ∃ ra F a es kvs dk, DAt w K ra F H y a es kvs ∧ Rep w K ra F x dk ∧ kindOk kvs dk = true ∧ dk.hk.isSome = true ∧ Q (.bl (if neg then !(dget kvs dk).isSome else (dget kvs dk).isSome)) H
theorem some_of {α : Type} {o : Option α} (h : o.isSome = true) : ∃ a, o = some a := by
  cases o with
  | none => cases h
  | some a => exact ⟨a, rfl⟩
theorem eget_some {w : World} {K : PySem.W.Frag} {ra : Addr} {F : Hp} {es : List (NestedKey × V × V)} {kvs : List (D × D)} {dk : D} {k : NestedKey} (r : RepE w K ra F es kvs) (h : dk.hk = some k) : (eget es k).isSome = (dget kvs dk).isSome := by
  obtain ⟨g1, g2⟩ := r.get h
  cases e : dget kvs dk with
  | none =>
    rw [g2 e]
    rfl
  | some dv =>
    obtain ⟨vv, h1, _⟩ := g1 dv e
    rw [h1]
    rfl
theorem op_inN (hu : X.A.units + 64 < cLine) : OpR X (compareOp .In) (rInN X.w X.K false) := by
  intro pins s σ H x y v u Q I rx ry h
  obtain ⟨ra, F, a, es, kvs, dk, d, r, hk, hs, q⟩ := h
  obtain ⟨rfl, fh, ha, re⟩ := d
  obtain ⟨k, ek⟩ := some_of hs
  cases ry
  have un := (inv_dictP I ha).2.2.2.1
  have eq : (eget es k).isSome = (dget kvs dk).isSome := eget_some re ek
  have hu8 : X.A.in1.units + 8 < cLine := by
    have : X.A.in1.units = X.A.units + 1 := rfl
    omega
  cases dk with
  | tup l =>
    obtain ⟨xs, p, hm, hd, _⟩ := inv_dictRef I fh ha re (uni_refs re un hk)
    cases r with
    | @tup b vs ds hq hr =>
      cases rx
      have kk := hk_of ek
      have isk : (nestedKind X.prog X.w).is s.heap k b := ⟨Rep.nested I fh (.tup l) (.tup hq hr) kk.1 rfl, kk.2⟩
      refine wpAny_in_heap hu8 isk hd hm ⟨.bl _, H, I.tok _, rfl, ?_⟩
      have : (atKey xs k).isSome = (eget es k).isSome := by
        obtain ⟨g1, g2⟩ := ER.get (k := k) p
        cases e : eget es k with
        | none =>
          rw [g2 e]
          rfl
        | some vv =>
          obtain ⟨p, h1, _⟩ := g1 vv e
          rw [h1]
          rfl
      rw [this, eq]
      exact q
  | int i =>
    obtain ⟨xs, p, hm, hd, _⟩ := inv_dictInt I ha re (uni_ints re un hk)
    cases r
    obtain ⟨t, rfl⟩ := rx
    have ei : k = .num i := by
      have := (hk_of ek).1
      simp [D.key] at this
      exact this.symm
    subst ei
    refine wpAny_in_of (knd := PySem.intKind X.prog X.w) (k := i) (by simp [PySem.intKind, Value.isInt]) hd hm.mapOf ⟨.bl _, H, I.tok _, rfl, ?_⟩
    have : (valueAt xs i).isSome = (eget es (.num i)).isSome := by
      obtain ⟨g1, g2⟩ := IR.get (k := i) p
      cases e : eget es (.num i) with
      | none =>
        rw [g2 e]
        rfl
      | some vv =>
        obtain ⟨p, h1, _⟩ := g1 vv e
        rw [h1]
        rfl
    rw [this, eq]
    exact q
  | _ => cases kvs with
    | nil => cases hk
    | cons p kvs => (obtain ⟨p1, p2⟩ := p; cases p1 <;> cases hk)
theorem op_notinN (hu : X.A.units + 64 < cLine) : OpR X (compareOp .NotIn) (rInN X.w X.K true) := by
  intro pins s σ H x y v u Q I rx ry h
  obtain ⟨ra, F, a, es, kvs, dk, d, r, hk, hs, q⟩ := h
  obtain ⟨rfl, fh, ha, re⟩ := d
  obtain ⟨k, ek⟩ := some_of hs
  cases ry
  have un := (inv_dictP I ha).2.2.2.1
  have eq : (eget es k).isSome = (dget kvs dk).isSome := eget_some re ek
  have hu8 : X.A.in1.units + 8 < cLine := by
    have : X.A.in1.units = X.A.units + 1 := rfl
    omega
  cases dk with
  | tup l =>
    obtain ⟨xs, p, hm, hd, _⟩ := inv_dictRef I fh ha re (uni_refs re un hk)
    cases r with
    | @tup b vs ds hq hr =>
      cases rx
      have kk := hk_of ek
      have isk : (nestedKind X.prog X.w).is s.heap k b := ⟨Rep.nested I fh (.tup l) (.tup hq hr) kk.1 rfl, kk.2⟩
      show wpAny _ _ (do return Value.bool (!(← contains (.ref a) (.ref b)))) _ _ s
      refine wpAny_bind (wpAny_contains_heap hu8 isk hd hm (wpAny_pure ⟨.bl _, H, I.tok _, rfl, ?_⟩))
      have : (atKey xs k).isSome = (eget es k).isSome := by
        obtain ⟨g1, g2⟩ := ER.get (k := k) p
        cases e : eget es k with
        | none =>
          rw [g2 e]
          rfl
        | some vv =>
          obtain ⟨p, h1, _⟩ := g1 vv e
          rw [h1]
          rfl
      rw [this, eq]
      exact q
  | int i =>
    obtain ⟨xs, p, hm, hd, _⟩ := inv_dictInt I ha re (uni_ints re un hk)
    cases r
    obtain ⟨t, rfl⟩ := rx
    have ei : k = .num i := by
      have := (hk_of ek).1
      simp [D.key] at this
      exact this.symm
    subst ei
    refine wpAny_notIn_of (knd := PySem.intKind X.prog X.w) (k := i) (by simp [PySem.intKind, Value.isInt]) hd hm.mapOf ⟨.bl _, H, I.tok _, rfl, ?_⟩
    have : (valueAt xs i).isSome = (eget es (.num i)).isSome := by
      obtain ⟨g1, g2⟩ := IR.get (k := i) p
      cases e : eget es (.num i) with
      | none =>
        rw [g2 e]
        rfl
      | some vv =>
        obtain ⟨p, h1, _⟩ := g1 vv e
        rw [h1]
        rfl
    rw [this, eq]
    exact q
  | _ => cases kvs with
    | nil => cases hk
    | cons p kvs => (obtain ⟨p1, p2⟩ := p; cases p1 <;> cases hk)
/-- x in a list or tuple of data -/
def rInS (K : PySem.W.Frag) (neg : Bool) : R2 := fun x y H Q => ∃ d ds, Dp K H x d ∧ (Dp K H y (.list ds) ∨ Dp K H y (.tuple ds)) ∧ SeqAt.shaped d = true ∧ PyData.canLayAll0 ds = true ∧ Q (.bl (if neg then !(ds.any fun z => PyData.eqv z d) else ds.any fun z => PyData.eqv z d)) H
theorem op_inS (hu : X.A.units + 65 < cLine) : OpR X (compareOp .In) (rInS X.K false) := by
  intro pins s σ H x y v u Q I rx ry h
  obtain ⟨d, ds, hd, he, sd, se, q⟩ := h
  obtain ⟨as, r1⟩ := Dp.reads I d x v hd rx
  rcases he with he | he
  · obtain ⟨bs, r2⟩ := Dp.reads I (.list ds) y u he ry
    exact SeqAt.in_list_reads r2 r1 se (SeqAt.canLay_of_shaped sd) (room_in_shaped sd hu) ⟨.bl _, H, I, rfl, q⟩
  · obtain ⟨bs, r2⟩ := Dp.reads I (.tuple ds) y u he ry
    exact SeqAt.in_tuple_reads r2 r1 se (SeqAt.canLay_of_shaped sd) (room_in_shaped sd hu) ⟨.bl _, H, I, rfl, q⟩
theorem op_notinS (hu : X.A.units + 65 < cLine) : OpR X (compareOp .NotIn) (rInS X.K true) := by
  intro pins s σ H x y v u Q I rx ry h
  obtain ⟨d, ds, hd, he, sd, se, q⟩ := h
  obtain ⟨as, r1⟩ := Dp.reads I d x v hd rx
  rcases he with he | he
  · obtain ⟨bs, r2⟩ := Dp.reads I (.list ds) y u he ry
    exact SeqAt.notIn_list_reads r2 r1 se (SeqAt.canLay_of_shaped sd) (room_in_shaped sd hu) ⟨.bl _, H, I, rfl, q⟩
  · obtain ⟨bs, r2⟩ := Dp.reads I (.tuple ds) y u he ry
    exact SeqAt.notIn_tuple_reads r2 r1 se (SeqAt.canLay_of_shaped sd) (room_in_shaped sd hu) ⟨.bl _, H, I, rfl, q⟩
def inF (neg : Bool) (d c : D) : Option D := match c with
  | .lst l => if d.plain 20 && D.plains 20 l then some (.bl (if neg then !(l.any fun z => z.eqv d) else l.any fun z => z.eqv d)) else none
  | .tup l => if d.plain 20 && D.plains 20 l then some (.bl (if neg then !(l.any fun z => z.eqv d) else l.any fun z => z.eqv d)) else none
  | .dct kvs => if kindOk kvs d && d.hk.isSome then some (.bl (if neg then !(dget kvs d).isSome else (dget kvs d).isSome)) else none
  | _ => none
theorem pds_any {d : D} (hd : d.plain 20 = true) : ∀ (l : List D), D.plains 20 l = true → ((D.pds l).any fun z => PyData.eqv z d.pd) = l.any fun z => z.eqv d
  | [], _ => rfl
  | x :: xs, h => by
    simp only [D.plains, Bool.and_eq_true] at h
    simp only [D.pds, List.any_cons]
    rw [eqv_pd x d 20 20 h.1 hd, pds_any hd xs h.2]
theorem ops_in (neg : Bool) : OpS X.w X.K (fun x y H Q => rInN X.w X.K neg x y H Q ∨ rInS X.K neg x y H Q) (inF neg) := by
  intro ra HK F e σ H x y d c z Q R hx hy hz q
  cases c with
  | dct kvs =>
    simp only [inF] at hz
    by_cases k : (kindOk kvs d && d.hk.isSome) = true
    · rw [if_pos k] at hz
      cases hz
      obtain ⟨k1, k2⟩ := Bool.and_eq_true_iff.mp k
      obtain ⟨a, es, da⟩ := hy.dat R.fh
      refine .inl ⟨ra, F, a, es, kvs, d, da, ?_, k1, k2, q _ F H (Same.refl F) R (.bl _)⟩
      cases hx with
      | val r => exact r
      | @own a o _ _ _ => cases o <;> (cases kvs with
        | nil => cases k1
        | cons p kvs => (obtain ⟨p1, p2⟩ := p; cases p1 <;> cases k1))
    · rw [if_neg k] at hz
      cases hz
  | lst l =>
    simp only [inF] at hz
    by_cases k : (d.plain 20 && D.plains 20 l) = true
    · rw [if_pos k] at hz
      cases hz
      obtain ⟨k1, k2⟩ := Bool.and_eq_true_iff.mp k
      have p60 := plain_up d 20 60 (by omega) k1
      have l60 : (D.lst l).plain 60 = true := plain_up (.lst l) 21 60 (by omega) (by simpa only [D.plain] using k2)
      refine .inr ⟨d.pd, D.pds l, hx.dp R.fh p60, .inl (by simpa only [D.pd] using hy.dp R.fh l60), plain_shaped p60, (plains_lay l 20 k2).1, ?_⟩
      rw [pds_any k1 l k2]
      exact q _ F H (Same.refl F) R (.bl _)
    · rw [if_neg k] at hz
      cases hz
  | tup l =>
    simp only [inF] at hz
    by_cases k : (d.plain 20 && D.plains 20 l) = true
    · rw [if_pos k] at hz
      cases hz
      obtain ⟨k1, k2⟩ := Bool.and_eq_true_iff.mp k
      have p60 := plain_up d 20 60 (by omega) k1
      have l60 : (D.tup l).plain 60 = true := plain_up (.tup l) 21 60 (by omega) (by simpa only [D.plain] using k2)
      refine .inr ⟨d.pd, D.pds l, hx.dp R.fh p60, .inr (by simpa only [D.pd] using hy.dp R.fh l60), plain_shaped p60, (plains_lay l 20 k2).1, ?_⟩
      rw [pds_any k1 l k2]
      exact q _ F H (Same.refl F) R (.bl _)
    · rw [if_neg k] at hz
      cases hz
  | _ => cases hz
variable {W : WX} {a b : Expr} {ma mb : M Ref} {pos : Pos}
theorem pm_in (hu : X.A.units + 65 < cLine) (ha : PMR X W a ma) (hb : PMR X W b mb) (hm : behindInMarks .In b = false := by rfl) : PM X W (.Compare a [.In] [b] pos) (op2M ma mb (inF false)) := pm_cmp (OpR.or (op_inN (by omega)) (op_inS hu)) (ops_in false) ha hb hm
theorem pmt_in (hu : X.A.units + 65 < cLine) (ha : PMR X W a ma) (hb : PMR X W b mb) (hm : behindInMarks .In b = false := by rfl) : PMT X W (.Compare a [.In] [b] pos) (testM (op2M ma mb (inF false))) := pmt_cmp (OpR.or (op_inN (by omega)) (op_inS hu)) (ops_in false) ha hb hm
theorem pmt_notin (hu : X.A.units + 65 < cLine) (ha : PMR X W a ma) (hb : PMR X W b mb) (hm : behindInMarks .NotIn b = false := by rfl) : PMT X W (.Compare a [.NotIn] [b] pos) (testM (op2M ma mb (inF true))) := pmt_cmp (OpR.or (op_notinN (by omega)) (op_notinS hu)) (ops_in true) ha hb hm
end
end Mi

set_option Elab.async false
set_option linter.all false
set_option maxRecDepth 100000
set_option maxHeartbeats 4000000
/-! Mi, part H: subscripts, slices, len, isinstance, is, and, or, not, if, attributes. -/
namespace Mi
open PySem PySem.Spec PyProof.Rows L2

theorem atI_rep {w : World} {K : PySem.W.Frag} {ra : Addr} {F : Hp} {vs : List V} {ds : List D} (r : RepA w K ra F vs ds) {i : Int} {d : D} (h : atI ds i = some d) : ∃ v, atI vs i = some v ∧ Rep w K ra F v d := by
  unfold atI at h ⊢
  rw [r.length]
  cases e : ixN ds.length i with
  | none =>
    rw [e] at h
    cases h
  | some j =>
    rw [e] at h
    have h' : ds[j]? = some d := h
    obtain ⟨v, h1, h2⟩ := r.get h'
    exact ⟨v, h1, h2⟩
/-- x[i] -/
def ixF (d i : D) : Option D := match d with
  | .lst l => (match i with | .int i => atI l i | _ => none)
  | .tup l => (match i with | .int i => atI l i | _ => none)
  | .dct kvs => if kindOk kvs i && i.hk.isSome then dget kvs i else none
  | _ => none
section
variable {X : Cx}
/-- d[k] -/
def rIxN (w : World) (K : PySem.W.Frag) : R2 := fun x y H Q => ∃ ra F a es kvs dk dv, DAt w K ra F H x a es kvs ∧ Rep w K ra F y dk ∧ kindOk kvs dk = true ∧ dk.hk.isSome = true ∧ dget kvs dk = some dv ∧ ∀ v, Rep w K ra F v dv → Q v H
theorem ix_dict (hu : X.A.units + 64 < cLine) : IxR X (rIxN X.w X.K) := by
  intro value slice pins s σ H x y v u Q I rx ry h hsl
  obtain ⟨ra, F, a, es, kvs, dk, dv, d, r, hk, hs, hg, q⟩ := h
  obtain ⟨rfl, fh, ha, re⟩ := d
  obtain ⟨k, ek⟩ := some_of hs
  cases rx
  have un := (inv_dictP I ha).2.2.2.1
  obtain ⟨vv, g1, g2⟩ := (re.get ek).1 dv hg
  have hu8 : X.A.in1.units + 8 < cLine := by
    have : X.A.in1.units = X.A.units + 1 := rfl
    omega
  have hT : s.TypeIs (.ref a) "dict" := by
    obtain ⟨_, _, _, _, o, _, _, ho, hc, _⟩ := inv_dictP I ha
    exact ⟨o, ho, hc.1⟩
  have main : wpAny (model X.prog X.w) X.A (getItem (.ref a) u) (EP X pins σ Q) X.xe s := by
    cases dk with
    | tup l =>
      obtain ⟨xs, p, hm, hd, _⟩ := inv_dictRef I fh ha re (uni_refs re un hk)
      cases r with
      | @tup b vs ds hq hr =>
        cases ry
        have kk := hk_of ek
        have isk : (nestedKind X.prog X.w).is s.heap k b := ⟨Rep.nested I fh (.tup l) (.tup hq hr) kk.1 rfl, kk.2⟩
        obtain ⟨p', e1, e2⟩ := (ER.get (k := k) p).1 vv g1
        exact wpAny_getItem_heap hu8 isk hm e1 ⟨vv, H, I.tok _, e2, q vv g2⟩
    | int i =>
      obtain ⟨xs, p, hm, hd, _⟩ := inv_dictInt I ha re (uni_ints re un hk)
      cases r
      obtain ⟨t, rfl⟩ := ry
      have ei : k = .num i := by
        have := (hk_of ek).1
        simp [D.key] at this
        exact this.symm
      subst ei
      obtain ⟨p', e1, e2⟩ := (IR.get (k := i) p).1 vv g1
      exact wpAny_getItem_of (knd := PySem.intKind X.prog X.w) (k := i) (by simp [PySem.intKind, Value.isInt]) hm.mapOf e1 ⟨vv, H, I.tok _, e2, q vv g2⟩
    | _ => cases kvs with
      | nil => cases hk
      | cons p kvs => (obtain ⟨p1, p2⟩ := p; cases p1 <;> cases hk)
  unfold subscriptTail
  refine wpAny_bind ?_
  rw [getitemInPython_of_ne hT.not_modules]
  refine wpAny_bind (wpAny_specialOf hT PySem.F.slot_dict_getitem.lookup ?_)
  have fin : wpAny (model X.prog X.w) X.A (subscripted slice false (.ref a) u) (fun r s₃ => wpAny (model X.prog X.w) X.A (letTemporaryGo value (.ref a) r >>= fun _ => pure r) (EP X pins σ Q) X.xe s₃) X.xe s := by
    rw [hsl]
    exact wpAny_operating (wpAny_mono main (fun r s₃ h₃ => wpAny_bind (wpAny_letTemporaryGo (wpAny_pure h₃))) fun _ _ x => x)
  first
    | exact wpAny_pure (wpAny_bind fin)
    | exact wpAny_bind (wpAny_pure (wpAny_bind fin))
    | exact wpAny_bind fin
theorem ops_ix : OpS X.w X.K (fun x y H Q => rIxL X.K x y H Q ∨ rIxT X.K x y H Q ∨ rIxN X.w X.K x y H Q) ixF := by
  intro ra HK F e σ H x y d i z Q R hx hy hz q
  cases d with
  | lst l =>
    cases i with
    | int i =>
      obtain ⟨a, vs, rfl, h1, h2⟩ := hx.lst R.fh
      obtain ⟨v, e1, e2⟩ := atI_rep h2 hz
      exact .inl ⟨a, vs, i, v, rfl, hy.int_, .of h1, e1, q v F H (Same.refl F) R e2⟩
    | _ => cases hz
  | tup l =>
    cases i with
    | int i =>
      obtain ⟨a, vs, rfl, h1, h2⟩ := hx.tup R.fh
      obtain ⟨v, e1, e2⟩ := atI_rep h2 hz
      exact .inr (.inl ⟨a, vs, i, v, rfl, hy.int_, h1, e1, q v F H (Same.refl F) R e2⟩)
    | _ => cases hz
  | dct kvs =>
    simp only [ixF] at hz
    by_cases k : (kindOk kvs i && i.hk.isSome) = true
    · rw [if_pos k] at hz
      obtain ⟨k1, k2⟩ := Bool.and_eq_true_iff.mp k
      obtain ⟨a, es, da⟩ := hx.dat R.fh
      refine .inr (.inr ⟨ra, F, a, es, kvs, i, z, da, ?_, k1, k2, hz, fun v r => q v F H (Same.refl F) R r⟩)
      cases hy with
      | val r => exact r
      | @own a o _ _ _ => cases o <;> (cases kvs with
        | nil => cases k1
        | cons p kvs => (obtain ⟨p1, p2⟩ := p; cases p1 <;> cases k1))
    · rw [if_neg k] at hz
      cases hz
  | _ => cases hz
variable {W : WX} {a b : Expr} {ma mb : M Ref} {pos : Pos}
theorem pm_ix (hu : X.A.units + 64 < cLine) (ha : PMR X W a ma) (hb : PMR X W b mb) (hs : PlainIx b := by exact fun _ _ => rfl) : PM X W (.Subscript a b pos) (op2M ma mb ixF) :=
  PE.weaken (pe_ix (ix_list.or (ix_tup.or (ix_dict hu))) ha hb hs) fun _ _ _ h => op_read ops_ix h

/-! ### slices -/
def TP : RT (Option Int) (Option Int) := fun _ _ _ _ _ _ _ _ b b' => b = b'
def PMP (X : Cx) (W : WX) (e : Option Expr) (m : M (Option Int)) : Prop := PO X e (tG TP X.w X.K W m)
def partM (m : M D) : M (Option Int) := bindM m fun d => match d with
  | .int i => pureM (some i)
  | _ => errM
theorem PO.weaken {e : Option Expr} {t t' : L2.TO} (h : PO X e t) (k : ∀ σ H Q, t' σ H Q → t σ H Q) : PO X e t' := ⟨fun pins s σ H Q I hw => h.run pins s σ H Q I (k σ H Q hw)⟩
theorem pmp_none : PMP X W none (pureM none) := PO.weaken po_none fun σ H Q h => by
  obtain ⟨ra, HK, F, e, R, h⟩ := h
  exact h none F H (Same.refl F) R rfl
theorem pmp_some {e : Expr} {m : M D} (h : PM X W e m) : PMP X W (some e) (partM m) := by
  refine PO.weaken (po_some h) ?_
  rintro σ H Q ⟨ra, HK, F, e, R, hw⟩
  unfold partM at hw
  refine stepG R hw fun F1 e1 d v H1 s1 R1 r1 q1 => ?_
  cases d with
  | int i =>
    cases r1
    exact ⟨i, rfl, q1 _ F1 H1 (Same.refl F1) R1 rfl⟩
  | _ => exact q1.elim
/-- the items of x[lo:hi] -/
def cutD (xs : List D) (lo hi : Option Int) : List D := (xs.drop (HT.sIx xs.length 0 lo)).take (HT.sIx xs.length xs.length hi - HT.sIx xs.length 0 lo)
def cutF (d : D) (lo hi : Option Int) : Option D := match d with
  | .tup l => some (.tup (cutD l lo hi))
  | .lst l => some (.lst (cutD l lo hi))
  | _ => none
def sliceM (m : M Ref) (ml mh : M (Option Int)) : M D := bindM m fun x => bindM ml fun lo => bindM mh fun hi => bindM (derefM x) fun d => liftO (cutF d lo hi)
theorem cut_rep {w : World} {K : PySem.W.Frag} {ra : Addr} {F : Hp} {vs : List V} {ds : List D} (r : RepA w K ra F vs ds) (lo hi : Option Int) : RepA w K ra F (cutV vs lo hi) (cutD ds lo hi) := by
  unfold cutV cutD
  rw [r.length]
  exact (r.drop _).take _
theorem cut_whole {ds : List D} {lo hi : Option Int} (h : HT.sIx ds.length 0 lo = 0 ∧ HT.sIx ds.length ds.length hi = ds.length) : cutD ds lo hi = ds := by
  unfold cutD
  rw [h.1, h.2]
  simp
theorem pm_slice {lo hi : Option Expr} {p2 : Pos} {ml mh : M (Option Int)} (ha : PMR X W a ma) (hl : PMP X W lo ml) (hh : PMP X W hi mh) : PM X W (.Subscript a (.Slice lo hi none p2) pos) (sliceM ma ml mh) := by
  refine PE.weaken (pe_slice (SlR.or sl_tupA sl_list) ha hl hh) ?_
  rintro σ H Q ⟨ra, HK, F, e, R, hw⟩
  unfold sliceM at hw
  refine stepG R hw fun F1 e1 x v H1 s1 R1 r1 q1 => ?_
  refine stepG R1 q1 fun F2 e2 l l' H2 s2 R2 r2 q2 => ?_
  refine stepG R2 q2 fun F3 e3 h h' H3 s3 R3 r3 q3 => ?_
  have r2' : l' = l := r2
  have r3' : h' = h := r3
  subst r2' r3'
  have r1' : TR X.w X.K ra HK σ e3 F3 H3 v x := by
    cases x with
    | val d => exact Rep.mono (s2.trans s3) r1
    | slot i => exact r1
  obtain ⟨d, hd, q4, _⟩ := R3.deref r1' q3
  cases d with
  | tup ds =>
    obtain ⟨b, vs, rfl, h1, h2⟩ := hd.tup R3.fh
    refine .inl ⟨b, vs, rfl, h1, fun c => ?_, fun c p hp => ?_⟩
    · rw [h2.length] at c
      have q5 : okG TV X.w X.K ra HK F3 σ Q (D.tup (cutD ds l' h')) e3 := q4
      rw [cut_whole c] at q5
      exact q5 _ F3 H3 (Same.refl F3) R3 hd.rep_tup
    · obtain ⟨R4, s4⟩ := R3.alloc hp (.tup (cutV vs l' h'))
      exact q4 _ _ _ s4 R4 (.tup (.of upd_same) (RepA.mono s4 (cut_rep h2 l' h')))
  | lst ds =>
    obtain ⟨b, vs, rfl, h1, h2⟩ := hd.lst R3.fh
    refine .inr ⟨b, vs, rfl, .of h1, fun p hp => ?_⟩
    obtain ⟨R4, s4⟩ := R3.alloc hp (.lst (cutV vs l' h'))
    exact q4 _ _ _ s4 R4 (.lst upd_same (RepA.mono s4 (cut_rep h2 l' h')))
  | _ => exact q4.elim

/-! ### built-ins of one argument -/
def op1M (ma : M Ref) (f : D → Option D) : M D := bindM ma fun x => bindM (derefM x) fun d => liftO (f d)
def C1S (w : World) (K : PySem.W.Frag) (r : List V → Hp → VK → Prop) (f : D → Option D) : Prop :=
  ∀ (ra : Addr) (HK : Kp) (F : Hp) (e : Env) (σ : St) (H : Hp) (x : V) (d z : D) (Q : VK), Rel w K ra HK F e σ H → Held w K ra F H x d → f d = some z → okG TV w K ra HK F σ Q z e → r [x] H Q
theorem one_read {r : List V → Hp → VK → Prop} {f : D → Option D} (hs : C1S X.w X.K r f) {σ : St} {H : Hp} {Q : VK} (h : tG TV X.w X.K W (op1M ma f) σ H Q) : tCB r (tCons (tG TR X.w X.K W ma) tNil) σ H Q := by
  obtain ⟨ra, HK, F, e, R, hw⟩ := h
  unfold op1M at hw
  refine stepG R hw fun F1 e1 x v H1 s1 R1 r1 q1 => ?_
  obtain ⟨d, hd, q2, _⟩ := R1.deref r1 q1
  unfold liftO at q2
  cases ez : f d with
  | none =>
    rw [ez] at q2
    exact q2.elim
  | some z =>
    rw [ez] at q2
    exact hs ra HK F1 e1 σ H1 v d z Q R1 hd ez q2
theorem pm_call1 {x : Str} {id : String} {p : Pos} {r : List V → Hp → VK → Prop} {f : D → Option D} (hc : CallR X (.builtin id) r) (hs : C1S X.w X.K r f) (hm : X.mg x = none) (hv : bootBuiltins x = some (.builtin id)) (ha : PMR X W a ma) (hg : Gl X x := by rfl)
    (hn : x ≠ "__name__" := by decide) (hdb : (x == ("__debug__" : Str)) = false := by decide) (hse : starEach [a] X.env = (false, eval a X.env) :: starEach [] X.env := by rfl) : PM X W (.Call (.Name x p) [a] [] pos) (op1M ma f) :=
  PE.weaken (pe_callB hc hg hm hv (pa_cons ha pa_nil hse) hn hdb hse rfl) fun _ _ _ h => one_read hs h
theorem pm_callT1 {x : Str} {T : String} {p : Pos} {r : List V → Hp → VK → Prop} {f : D → Option D} (hc : CallR X (.type T) r) (hs : C1S X.w X.K r f) (hm : X.mg x = none) (hv : bootBuiltins x = some (.type T)) (ha : PMR X W a ma) (hg : Gl X x := by rfl)
    (hn : x ≠ "__name__" := by decide) (hdb : (x == ("__debug__" : Str)) = false := by decide) (hse : starEach [a] X.env = (false, eval a X.env) :: starEach [] X.env := by rfl) : PM X W (.Call (.Name x p) [a] [] pos) (op1M ma f) :=
  PE.weaken (pe_callTy hc hg hm hv (pa_cons ha pa_nil hse) hn hdb hse rfl) fun _ _ _ h => one_read hs h
/-- len -/
def lenF (d : D) : Option D := match d with
  | .lst l => some (.int l.length)
  | .tup l => some (.int l.length)
  | .dct l => some (.int l.length)
  | _ => none
def rLenN (w : World) (K : PySem.W.Frag) : List V → Hp → VK → Prop := fun xs H Q => ∃ ra F a es kvs y, xs = [y] ∧ DAt w K ra F H y a es kvs ∧ Q (.int kvs.length) H
theorem call_lenN : CallR X (.builtin "len") (rLenN X.w X.K) := by
  intro pins s σ H xs us Q I r h
  obtain ⟨ra, F, a, es, kvs, y, rfl, ⟨rfl, fh, ha, re⟩, q⟩ := h
  obtain ⟨u, rfl, rx⟩ := vals1 r
  cases rx
  have l63 := line63
  rw [← re.length] at q
  rcases (inv_dictP I ha).2.2.2.1 with un | un
  · obtain ⟨xs, p, hm, hd, hz⟩ := inv_dictRef I fh ha re un
    have hl : es.length = xs.length := Paired.length p
    exact call_len_dictH hd hm (by omega) ⟨.int es.length, H, I.tok _, ⟨_, by rw [hl]⟩, q⟩
  · obtain ⟨xs, p, hm, hd, hz⟩ := inv_dictInt I ha re un
    have hl : es.length = xs.length := Paired.length p
    exact call_len_dict hd hm (by omega) ⟨.int es.length, H, I.tok _, ⟨_, by rw [hl]⟩, q⟩
theorem CallR.or' {f : Value} {r r' : List V → Hp → VK → Prop} (h : CallR X f r) (h' : CallR X f r') : CallR X f (fun xs H Q => r xs H Q ∨ r' xs H Q) := by
  intro pins s σ H xs us Q I rv q
  rcases q with q | q
  · exact h pins s σ H xs us Q I rv q
  · exact h' pins s σ H xs us Q I rv q
theorem c1s_len : C1S X.w X.K (fun xs H Q => (∃ p ys, xs = [.ref p] ∧ (SqL X.K H p ys ∨ SqT X.K H p ys) ∧ Q (.int ys.length) H) ∨ rLenN X.w X.K xs H Q) lenF := by
  intro ra HK F e σ H x d z Q R hx hz q
  cases d with
  | lst l =>
    cases hz
    obtain ⟨a, vs, rfl, h1, h2⟩ := hx.lst R.fh
    exact .inl ⟨a, vs, rfl, .inl (.of h1), by rw [h2.length]; exact q _ F H (Same.refl F) R (.int _)⟩
  | tup l =>
    cases hz
    obtain ⟨a, vs, rfl, h1, h2⟩ := hx.tup R.fh
    exact .inl ⟨a, vs, rfl, .inr h1, by rw [h2.length]; exact q _ F H (Same.refl F) R (.int _)⟩
  | dct l =>
    cases hz
    obtain ⟨a, es, da⟩ := hx.dat R.fh
    exact .inr ⟨ra, F, a, es, l, x, rfl, da, q _ F H (Same.refl F) R (.int _)⟩
  | _ => cases hz
theorem pm_len {p : Pos} (hm : X.mg "len" = none) (ha : PMR X W a ma) (hg : Gl X "len" := by rfl) (hse : starEach [a] X.env = (false, eval a X.env) :: starEach [] X.env := by rfl) : PM X W (.Call (.Name "len" p) [a] [] pos) (op1M ma lenF) :=
  pm_call1 (CallR.or' call_len_seq call_lenN) c1s_len hm PySem.boot_len ha hg (by decide) (by decide) hse
/-- int(n), int(flag) -/
def toIntF (d : D) : Option D := match d with
  | .int i => some (.int i)
  | .bl b => some (.int (if b then 1 else 0))
  | _ => none
theorem c1s_int : C1S X.w X.K (fun xs H Q => (∃ i, xs = [.int i] ∧ Q (.int i) H) ∨ ∃ k, xs = [.bl k] ∧ Q (.int (if k then 1 else 0)) H) toIntF := by
  intro ra HK F e σ H x d z Q R hx hz q
  cases d with
  | int i =>
    cases hz
    exact .inl ⟨i, by rw [hx.int_], q _ F H (Same.refl F) R (.int _)⟩
  | bl b =>
    cases hz
    exact .inr ⟨b, by rw [hx.bl_], q _ F H (Same.refl F) R (.int _)⟩
  | _ => cases hz
theorem pm_toInt {p : Pos} (hm : X.mg "int" = none) (ha : PMR X W a ma) (hg : Gl X "int" := by rfl) (hse : starEach [a] X.env = (false, eval a X.env) :: starEach [] X.env := by rfl) : PM X W (.Call (.Name "int" p) [a] [] pos) (op1M ma toIntF) :=
  pm_callT1 call_int1 c1s_int hm boot_int ha hg (by decide) (by decide) hse
/-- tuple(list), tuple(tuple) -/
def tupleF (d : D) : Option D := match d with
  | .lst l => some (.tup l)
  | .tup l => some (.tup l)
  | _ => none
def rTup (K : PySem.W.Frag) : List V → Hp → VK → Prop := fun vs H Q => ∃ x, vs = [x] ∧ kTup K x H Q
theorem call_tup : CallR X (.type "tuple") (rTup X.K) := by
  intro pins s σ H xs us Q I r h
  obtain ⟨x, rfl, h⟩ := h
  obtain ⟨u, rfl, rx⟩ := vals1 r
  exact rl_tuple pins s σ H x u Q I rx h
end
end Mi

set_option Elab.async false
set_option linter.all false
set_option maxRecDepth 100000
set_option maxHeartbeats 4000000
/-! Mi, part I: tuple, list, isinstance, is, and, or, not, if, chains, attributes. -/
namespace Mi
open PySem PySem.Spec PyProof.Rows L2
section
variable {X : Cx} {W : WX} {a b c : Expr} {ma mb : M Ref} {pos : Pos}
theorem c1s_tup : C1S X.w X.K (rTup X.K) tupleF := by
  intro ra HK F e σ H x d z Q R hx hz q
  cases d with
  | lst l =>
    cases hz
    obtain ⟨a, vs, rfl, h1, h2⟩ := hx.lst R.fh
    refine ⟨_, rfl, .inl ⟨a, vs, rfl, .of h1, fun p hp => ?_⟩⟩
    obtain ⟨R2, s2⟩ := R.alloc hp (.tup vs)
    exact q _ _ _ s2 R2 (.tup (.of upd_same) (RepA.mono s2 h2))
  | tup l =>
    cases hz
    obtain ⟨a, vs, rfl, h1, h2⟩ := hx.tup R.fh
    exact ⟨_, rfl, .inr ⟨a, vs, rfl, h1, q _ F H (Same.refl F) R hx.rep_tup⟩⟩
  | _ => cases hz
theorem pm_tupleOf {p : Pos} (hm : X.mg "tuple" = none) (hv : bootBuiltins "tuple" = some (.type "tuple")) (ha : PMR X W a ma) (hg : Gl X "tuple" := by rfl) (hse : starEach [a] X.env = (false, eval a X.env) :: starEach [] X.env := by rfl) : PM X W (.Call (.Name "tuple" p) [a] [] pos) (op1M ma tupleF) :=
  pm_callT1 call_tup c1s_tup hm hv ha hg (by decide) (by decide) hse
/-- list(list), list(tuple): a new one -/
def listO (d : D) : Option OD := match d with
  | .lst l => some (.lst l)
  | .tup l => some (.lst l)
  | _ => none
def op1O (ma : M Ref) (f : D → Option OD) : M OD := bindM ma fun x => bindM (derefM x) fun d => liftO (f d)
/-! ### isinstance -/
def D.ty : D → Option String
  | .non => some "NoneType"
  | .bl _ => some "bool"
  | .int _ => some "int"
  | .str _ => some "str"
  | .lst _ => some "list"
  | .tup _ => some "tuple"
  | .dct _ => some "dict"
  | .obj _ => none
  | .row => none
  | .exn _ _ _ => none
/-- isinstance(x, T), T a built-in -/
def isiF (T : String) (d : D) : Option D := match d with
  | .obj _ => some (.bl false)
  | d => (d.ty.bind fun t => kitB t T).map D.bl
/-- what is asked of the class Rule for isinstance -/
structure RuleIs (K : PySem.W.Frag) : Prop where
  cl : Cls K (He.ga K "Rule")
  ha : PySem.W.findIn K (.ref (He.ga K "Rule")) "__class__" = some (some (.builtin "object.__class__"))
  hn : PySem.W.specialIn K (.builtin "object.__class__") "__get__" = some (some (.builtin "getset_descriptor.__get__"))
  htk : PySem.W.takesIn K (.builtin "object.__class__") = some true
  hm : PySem.W.mroIn K (He.ga K "Rule") (.type "object") = some true
theorem Held.tyd {w : World} {K : PySem.W.Frag} {ra : Addr} {F H : Hp} (fh : Same F H) {v : V} {d : D} {t : String} (h : Held w K ra F H v d) (ht : d.ty = some t) (hd : ∀ l, d ≠ .dct l) : TyX K H v (.type t) := by
  cases d with
  | non =>
    cases ht
    generalize e : D.non = d at h
    cases h with
    | val r =>
      subst e
      cases r
      exact .base .non
    | @own a o _ _ _ => cases o <;> cases e
  | bl b =>
    cases ht
    rw [h.bl_]
    exact .base (.bl b)
  | int b =>
    cases ht
    rw [h.int_]
    exact .base (.int b)
  | str b =>
    cases ht
    rw [h.str_]
    exact .base (.str b)
  | lst l =>
    cases ht
    obtain ⟨a, vs, rfl, h1, h2⟩ := h.lst fh
    exact .base (.lst h1)
  | tup l =>
    cases ht
    obtain ⟨a, vs, rfl, h1, h2⟩ := h.tup fh
    rcases h1 with (h1 | ⟨o, h1⟩) | ⟨o, its, n, hk, hc, _⟩
    · exact .base (.tup h1)
    · exact .fTuple h1
    · exact .kTuple hk hc
  | dct l => exact absurd rfl (hd l)
  | _ => cases ht
/-- isinstance(x, c) for a dict -/
def rIsiD (w : World) (K : PySem.W.Frag) : List V → Hp → VK → Prop := fun xs H Q => ∃ (a : Addr) (es : List (NestedKey × V × V)) (c : V) (u : Value) (b : Bool), xs = [.ref a, c] ∧ ClsV c u ∧ DictAt w H a es ∧ PySem.W.kitOne K (.type "dict") u = some b ∧ Q (.bl b) H
theorem call_isiD : CallR X (.builtin "isinstance") (rIsiD X.w X.K) := by
  intro pins s σ H xs us Q I r h
  obtain ⟨a, es, c, u, b, rfl, k, ha, e, q⟩ := h
  obtain ⟨u1, u2, rfl, r1, r2⟩ := vals2 r
  have e2 := k.eq r2
  subst e2
  cases r1
  obtain ⟨_, _, _, _, o, _, _, ho, hc, _⟩ := inv_dictP I ha
  exact PySem.W.kia_one PySem.W.kitx_dict I.kIn ⟨o, ho, hc.1⟩ e (fun z => nomatch z) fun tk => ⟨.bl b, H, I.tok tk, rfl, q⟩
theorem isi_read {cv : V} {u : Value} {f : D → Option D} (k : ClsV cv u) (hf : ∀ d z, f d = some z → (∃ t b, d.ty = some t ∧ PySem.W.kitOne X.K (.type t) u = some b ∧ z = .bl b) ∨ (∃ l b, d = .obj l ∧ PySem.W.kitOne X.K (.ref (He.ga X.K "Rule")) u = some b ∧ z = .bl b)) (RI : RuleIs X.K)
    {σ : St} {H : Hp} {Q : VK} (h : tG TV X.w X.K W (op1M ma f) σ H Q) : tCB (fun xs H Q => rIsi X.K xs H Q ∨ rIsiD X.w X.K xs H Q) (tCons (tG TR X.w X.K W ma) (tCons (tC cv) tNil)) σ H Q := by
  obtain ⟨ra, HK, F, e, R, hw⟩ := h
  unfold op1M at hw
  refine stepG R hw fun F1 e1 x v H1 s1 R1 r1 q1 => ?_
  obtain ⟨d, hd, q2, _⟩ := R1.deref r1 q1
  unfold liftO at q2
  cases ez : f d with
  | none =>
    rw [ez] at q2
    exact q2.elim
  | some z =>
    rw [ez] at q2
    rcases hf d z ez with ⟨t, b, h1, h2, rfl⟩ | ⟨l, b, rfl, h2, rfl⟩
    · by_cases hdc : ∃ l, d = .dct l
      · obtain ⟨l, rfl⟩ := hdc
        cases h1
        obtain ⟨a, es, da⟩ := hd.dat R1.fh
        obtain ⟨rfl, _, ha, _⟩ := da
        exact .inr ⟨a, es, cv, u, b, rfl, k, ha, h2, q2 _ F1 H1 (Same.refl F1) R1 (.bl _)⟩
      · exact .inl ⟨v, cv, .type t, u, b, rfl, k, hd.tyd R1.fh h1 (fun l z => hdc ⟨l, z⟩), h2, q2 _ F1 H1 (Same.refl F1) R1 (.bl _)⟩
    · obtain ⟨a, dx, fs, rfl, ha⟩ : ∃ a dx fs, v = .ref a ∧ H1 a = some (.ins (He.ga X.K "Rule") dx fs) := by
        generalize e : D.obj l = d at hd
        cases hd with
        | val r =>
          subst e
          cases r with
          | obj h3 _ _ => exact ⟨_, _, _, rfl, R1.fh _ _ h3⟩
        | @own a o _ _ _ => cases o <;> cases e
      exact .inl ⟨_, cv, _, u, b, rfl, k, .base (.ins ha RI.cl RI.ha RI.hn RI.htk RI.hm), h2, q2 _ F1 H1 (Same.refl F1) R1 (.bl _)⟩
theorem call_isi2 : CallR X (.builtin "isinstance") (fun xs H Q => rIsi X.K xs H Q ∨ rIsiD X.w X.K xs H Q) := CallR.or' call_isi call_isiD
/-- isinstance(x, T) -/
theorem pm_isi {T : Str} {n : String} {p p2 : Pos} (hm : X.mg "isinstance" = none) (hv : bootBuiltins "isinstance" = some (.builtin "isinstance")) (hmT : X.mg T = none) (hvT : bootBuiltins T = some (.type n)) (RI : RuleIs X.K) (ho : PySem.W.kitOne X.K (.ref (He.ga X.K "Rule")) (.type n) = some false)
    (ha : PMR X W a ma) (hg : Gl X "isinstance" := by rfl) (hgT : Gl X T := by rfl) (hn : T ≠ "__name__" := by decide) (hd : (T == ("__debug__" : Str)) = false := by decide)
    (hse : starEach [a, .Name T p2] X.env = (false, eval a X.env) :: starEach [.Name T p2] X.env := by rfl) : PM X W (.Call (.Name "isinstance" p) [a, .Name T p2] [] pos) (op1M ma (isiF n)) := by
  refine PE.weaken (pe_callB call_isi2 hg hm hv (pa_cons ha (pa_cons (pe_bltn (v := .ty n) hgT hmT hvT rfl hn hd) pa_nil rfl) hse) (by decide) (by decide) hse rfl) fun σ H Q h => isi_read (.ty n) (fun d z e => ?_) RI h
  by_cases k : ∃ l, d = .obj l
  · obtain ⟨l, rfl⟩ := k
    cases e
    exact .inr ⟨l, false, rfl, ho, rfl⟩
  · have e2 : (d.ty.bind fun t => kitB t n).map D.bl = some z := by
      cases d with
      | obj l => exact absurd ⟨l, rfl⟩ k
      | _ => exact e
    cases ht : d.ty with
    | none =>
      rw [ht] at e2
      cases e2
    | some t =>
      rw [ht] at e2
      have e3 : (kitB t n).map D.bl = some z := e2
      cases hk : kitB t n with
      | none =>
        rw [hk] at e3
        cases e3
      | some b =>
        rw [hk] at e3
        cases e3
        exact .inl ⟨t, b, rfl, kit_ty hk, rfl⟩
/-! ### is None -/
def D.isN : D → Bool
  | .non => true
  | _ => false
def isNF (d : D) : Option D := some (.bl d.isN)
def notNF (d : D) : Option D := some (.bl (!d.isN))
theorem Held.non_iff {w : World} {K : PySem.W.Frag} {ra : Addr} {F H : Hp} {v : V} {d : D} (h : Held w K ra F H v d) : decide (v = .non) = d.isN := by
  cases h with
  | val r => cases r <;> rfl
  | @own a o _ _ _ => cases o <;> rfl
theorem isn_read {r : V → Hp → VK → Prop} {f : D → Option D} {te : TE} (hs : ∀ (ra : Addr) (HK : Kp) (F : Hp) (e : Env) (σ : St) (H : Hp) (x : V) (d z : D) (Q : VK), Rel X.w X.K ra HK F e σ H → Held X.w X.K ra F H x d → f d = some z → okG TV X.w X.K ra HK F σ Q z e → r x H Q)
    {σ : St} {H : Hp} {Q : VK} (h : tG TV X.w X.K W (op1M ma f) σ H Q) : tG TR X.w X.K W ma σ H fun x H1 => r x H1 Q := by
  obtain ⟨ra, HK, F, e, R, hw⟩ := h
  unfold op1M at hw
  refine stepG R hw fun F1 e1 x v H1 s1 R1 r1 q1 => ?_
  obtain ⟨d, hd, q2, _⟩ := R1.deref r1 q1
  unfold liftO at q2
  cases ez : f d with
  | none =>
    rw [ez] at q2
    exact q2.elim
  | some z =>
    rw [ez] at q2
    exact hs ra HK F1 e1 σ H1 v d z Q R1 hd ez q2
theorem isN_read {σ : St} {H : Hp} {Q : VK} (h : tG TV X.w X.K W (op1M ma isNF) σ H Q) : tIsN (tG TR X.w X.K W ma) σ H Q :=
  isn_read (te := fun _ _ _ => False) (r := fun x H1 Q => Q (.bl (decide (x = .non))) H1) (fun ra HK F e σ H x d z Q R hd ez q => by
    cases ez
    show Q _ H
    rw [hd.non_iff]
    exact q _ F H (Same.refl F) R (.bl _)) h
theorem notN_read {σ : St} {H : Hp} {Q : VK} (h : tG TV X.w X.K W (op1M ma notNF) σ H Q) : tNotN (tG TR X.w X.K W ma) σ H Q :=
  isn_read (te := fun _ _ _ => False) (r := fun x H1 Q => Q (.bl (!decide (x = .non))) H1) (fun ra HK F e σ H x d z Q R hd ez q => by
    cases ez
    show Q _ H
    rw [hd.non_iff]
    exact q _ F H (Same.refl F) R (.bl _)) h
theorem pm_isN {j p2} (ha : PMR X W a ma) : PM X W (.Compare a [.Is] [.Constant .none j p2] pos) (op1M ma isNF) := PE.weaken (pe_cmp (pc_isN ha) rfl) fun _ _ _ h => isN_read h
theorem pm_notN {j p2} (ha : PMR X W a ma) : PM X W (.Compare a [.IsNot] [.Constant .none j p2] pos) (op1M ma notNF) := PE.weaken (pe_cmp (pc_notN ha) rfl) fun _ _ _ h => notN_read h
theorem pmt_isN {j p2} (ha : PMR X W a ma) : PMT X W (.Compare a [.Is] [.Constant .none j p2] pos) (testM (op1M ma isNF)) := PT.weaken (pt_cmp (pc_isN ha) rfl) fun σ H Q h => by
  obtain ⟨ra, HK, F, e, R, h3⟩ := test_read h
  exact isN_read ⟨ra, HK, F, e, R, h3⟩
theorem pmt_notN {j p2} (ha : PMR X W a ma) : PMT X W (.Compare a [.IsNot] [.Constant .none j p2] pos) (testM (op1M ma notNF)) := PT.weaken (pt_cmp (pc_notN ha) rfl) fun σ H Q h => by
  obtain ⟨ra, HK, F, e, R, h3⟩ := test_read h
  exact notN_read ⟨ra, HK, F, e, R, h3⟩

/-! ### and, or, not, if -/
variable {rest : List Expr}
def andT (m n : M Bool) : M Bool := bindM m fun c => if c = true then n else pureM false
def orT (m n : M Bool) : M Bool := bindM m fun c => if c = true then pureM true else n
def notT (m : M Bool) : M Bool := bindM m fun c => pureM (!c)
theorem pmw_and1 {m : M Bool} (ha : PMT X W a m) : PMW X W (.BoolOp .And [a] pos) m := pw_and1 ha
theorem pmw_or1 {m : M Bool} (ha : PMT X W a m) : PMW X W (.BoolOp .Or [a] pos) m := pw_or1 ha
theorem pmw_and {m n : M Bool} (ha : PMT X W a m) (hb : PMW X W (.BoolOp .And (b :: rest) pos) n) : PMW X W (.BoolOp .And (a :: b :: rest) pos) (andT m n) := by
  refine PW.weaken (pw_and ha hb) ?_
  rintro σ H Q ⟨ra, HK, F, e, R, hw⟩
  unfold andT at hw
  refine stepG R hw fun F1 e1 x v H1 s1 R1 r1 q1 => ?_
  cases (show v = x from r1)
  cases x with
  | true => exact iteT (last R1 q1)
  | false => exact iteF (q1 _ F1 H1 (Same.refl F1) R1 rfl)
theorem pmw_or {m n : M Bool} (ha : PMT X W a m) (hb : PMW X W (.BoolOp .Or (b :: rest) pos) n) : PMW X W (.BoolOp .Or (a :: b :: rest) pos) (orT m n) := by
  refine PW.weaken (pw_or ha hb) ?_
  rintro σ H Q ⟨ra, HK, F, e, R, hw⟩
  unfold orT at hw
  refine stepG R hw fun F1 e1 x v H1 s1 R1 r1 q1 => ?_
  cases (show v = x from r1)
  cases x with
  | true => exact iteT (q1 _ F1 H1 (Same.refl F1) R1 rfl)
  | false => exact iteF (last R1 q1)
theorem pmt_w {e : Expr} {m : M Bool} (h : PMW X W e m) : PMT X W e m := PW.pt h
theorem pmt_not {m : M Bool} (ha : PMT X W a m) : PMT X W (.UnaryOp .Not a pos) (notT m) := by
  refine PT.weaken (pt_not ha) ?_
  rintro σ H Q ⟨ra, HK, F, e, R, hw⟩
  unfold notT at hw
  refine stepG R hw fun F1 e1 x v H1 s1 R1 r1 q1 => ?_
  cases (show v = x from r1)
  exact q1 _ F1 H1 (Same.refl F1) R1 rfl
/-- as values -/
def andV (m n : M D) : M D := bindM m fun d => match d with
  | .bl c => if c = true then n else pureM (.bl false)
  | _ => errM
def orV (m n : M D) : M D := bindM m fun d => match d with
  | .bl c => if c = true then pureM (.bl true) else n
  | _ => errM
def notV (m : M D) : M D := bindM m fun d => match d with
  | .bl c => pureM (.bl (!c))
  | _ => errM
theorem pm_one {op} {m : M D} (h : PM X W a m) : PM X W (.BoolOp op [a] pos) m := pe_one h
theorem pm_and {m n : M D} (ha : PM X W a m) (hb : PM X W (.BoolOp .And (b :: rest) pos) n) : PM X W (.BoolOp .And (a :: b :: rest) pos) (andV m n) := by
  refine PE.weaken (pe_and ha hb) ?_
  rintro σ H Q ⟨ra, HK, F, e, R, hw⟩
  unfold andV at hw
  refine stepG R hw fun F1 e1 x v H1 s1 R1 r1 q1 => ?_
  cases x with
  | bl c =>
    cases r1
    refine ⟨c, rfl, ?_⟩
    cases c with
    | true => exact iteT (last R1 q1)
    | false => exact iteF (q1 _ F1 H1 (Same.refl F1) R1 (.bl _))
  | _ => exact q1.elim
theorem pm_or {m n : M D} (ha : PM X W a m) (hb : PM X W (.BoolOp .Or (b :: rest) pos) n) : PM X W (.BoolOp .Or (a :: b :: rest) pos) (orV m n) := by
  refine PE.weaken (pe_or ha hb) ?_
  rintro σ H Q ⟨ra, HK, F, e, R, hw⟩
  unfold orV at hw
  refine stepG R hw fun F1 e1 x v H1 s1 R1 r1 q1 => ?_
  cases x with
  | bl c =>
    cases r1
    refine ⟨c, rfl, ?_⟩
    cases c with
    | true => exact iteT (q1 _ F1 H1 (Same.refl F1) R1 (.bl _))
    | false => exact iteF (last R1 q1)
  | _ => exact q1.elim
theorem pm_not {m : M D} (ha : PM X W a m) : PM X W (.UnaryOp .Not a pos) (notV m) := by
  refine PE.weaken (pe_not ha) ?_
  rintro σ H Q ⟨ra, HK, F, e, R, hw⟩
  unfold notV at hw
  refine stepG R hw fun F1 e1 x v H1 s1 R1 r1 q1 => ?_
  cases x with
  | bl c =>
    cases r1
    exact ⟨c, rfl, q1 _ F1 H1 (Same.refl F1) R1 (.bl _)⟩
  | _ => exact q1.elim
def iteM {α : Type} (t : M Bool) (m n : M α) : M α := bindM t fun c => if c = true then m else n
theorem pm_ifExp {t : M Bool} {m n : M D} (hc : PMT X W c t) (ha : PM X W a m) (hb : PM X W b n) : PM X W (.IfExp c a b pos) (iteM t m n) := by
  refine PE.weaken (pe_ifExp hc ha hb) ?_
  rintro σ H Q ⟨ra, HK, F, e, R, hw⟩
  unfold iteM at hw
  refine stepG R hw fun F1 e1 x v H1 s1 R1 r1 q1 => ?_
  cases (show v = x from r1)
  cases x with
  | true => exact iteT (last R1 q1)
  | false => exact iteF (last R1 q1)
/-- a op b op' c, of numbers -/
def chainM (o o' : Int → Int → Bool) (m n k : M D) : M D := bindM m fun x => bindM n fun y => match x, y with
  | .int i, .int j => if o i j = true then bindM k fun z => (match z with
    | .int l => pureM (.bl (o' j l))
    | _ => errM) else pureM (.bl false)
  | _, _ => errM
theorem pm_chain {op op' : CmpOp} {o o' : Int → Int → Bool} {m n k : M D} (ho : OpR X (compareOp op) (rI0 fun i j => .bl (o i j))) (ho' : OpR X (compareOp op') (rI0 fun i j => .bl (o' i j))) (ha : PM X W a m) (hb : PM X W b n) (hc : PM X W c k)
    (hm : lastMarks [op, op'] [b, c] = false := by with_unfolding_all rfl) : PM X W (.Compare a [op, op'] [b, c] pos) (chainM o o' m n k) := by
  refine PE.weaken (pe_chain ho ho' ha hb hc hm) ?_
  rintro σ H Q ⟨ra, HK, F, e, R, hw⟩
  unfold chainM at hw
  refine stepG R hw fun F1 e1 x v H1 s1 R1 r1 q1 => ?_
  refine stepG R1 q1 fun F2 e2 y u H2 s2 R2 r2 q2 => ?_
  cases x with
  | int i =>
    cases y with
    | int j =>
      cases r1
      cases r2
      refine ⟨i, j, rfl, rfl, o i j, rfl, ?_⟩
      simp only at q2
      cases hc : o i j with
      | true =>
        rw [hc, if_pos rfl] at q2
        refine iteT (stepG R2 q2 fun F3 e3 z w' H3 s3 R3 r3 q3 => ?_)
        cases z with
        | int l =>
          cases r3
          exact ⟨j, l, rfl, rfl, q3 _ F3 H3 (Same.refl F3) R3 (.bl _)⟩
        | _ => exact q3.elim
      | false =>
        rw [hc, if_neg Bool.false_ne_true] at q2
        exact iteF (q2 _ F2 H2 (Same.refl F2) R2 (.bl _))
    | _ => exact q2.elim
  | _ => exact q2.elim

/-! ### the fields of a Rule -/
def fldF (n : Nat) (d : D) : Option D := match d with
  | .obj l => l[n]?
  | _ => none
theorem rule_lookup {f : Str} {n : Nat} (h : (["many", "wide", "rows", "low", "high"] : List Str)[n]? = some f) : ∀ {vs : List V} {v : V}, vs.length = 5 → vs[n]? = some v → (ruleF vs).lookup f = some v := by
  intro vs v hl hv
  match vs, hl with
  | [v0, v1, v2, v3, v4], _ =>
    match n, h with
    | 0, h => cases h; cases hv; rfl
    | 1, h => cases h; cases hv; rfl
    | 2, h => cases h; cases hv; rfl
    | 3, h => cases h; cases hv; rfl
    | 4, h => cases h; cases hv; rfl
theorem pm_fld {f : Str} (n : Nat) (cl : Cls X.K (He.ga X.K "Rule")) (na : NoAttr X.K (He.ga X.K "Rule") f) (h5 : (["many", "wide", "rows", "low", "high"] : List Str)[n]? = some f) (ha : PMR X W a ma) (hb : attributeBase a f X.env (eval a X.env) = eval a X.env := by rfl) : PM X W (.Attribute a f pos) (op1M ma (fldF n)) := by
  refine PE.weaken (pe_fld ha hb) fun σ H Q h => ?_
  refine isn_read (te := fun _ _ _ => False) (r := fun x H1 Q => ∃ a C dx fs v, x = .ref a ∧ H1 a = some (.ins C dx fs) ∧ Cls X.K C ∧ NoAttr X.K C f ∧ fs.lookup f = some v ∧ Q v H1) (fun ra HK F e σ H x d z Q R hd ez q => ?_) h
  cases d with
  | obj l =>
    have ez' : l[n]? = some z := ez
    generalize e : D.obj l = d at hd
    cases hd with
    | val r =>
      subst e
      cases r with
      | @obj a dx vs ds h1 h2 h3 =>
        obtain ⟨v, g1, g2⟩ := h3.get ez'
        exact ⟨_, _, _, _, v, rfl, R.fh _ _ h1, cl, na, rule_lookup h5 h2 g1, q v F H (Same.refl F) R g2⟩
    | @own a o _ _ _ => cases o <;> cases e
  | _ => cases ez
end
end Mi

set_option Elab.async false
set_option linter.all false
set_option maxRecDepth 100000
set_option maxHeartbeats 4000000
/-! Mi, part J: statements, targets, while. -/
namespace Mi
open PySem PySem.Spec PyProof.Rows L2
def setM (i : Nat) (s : Slot) : M Unit := fun e => if i < e.sl.length then .ok () { e with sl := e.sl.set i s } else .err
inductive Fl where
  | nx | rt (d : D) | bk | ct
section
variable {w : World} {K : PySem.W.Frag} {ra : Addr} {HK : Kp} {F H : Hp} {e : Env} {σ : St}
theorem wp_setM {β : Type} {i : Nat} {s : Slot} {g : Unit → M β} {A : β → Env → Prop} {B : Exn → Env → Prop} (h : (bindM (setM i s) g e).wp A B) : i < e.sl.length ∧ (g () { e with sl := e.sl.set i s }).wp A B := by
  unfold bindM setM at h
  by_cases c : i < e.sl.length
  · simp only [if_pos c] at h
    exact ⟨c, h⟩
  · simp only [if_neg c] at h
    exact h.elim
theorem Rel.setVal (R : Rel w K ra HK F e σ H) {i : Nat} (hi : i < e.sl.length) {v : V} {d : D} (r : Rep w K ra F v d) : Rel w K ra HK F { e with sl := e.sl.set i (.val d) } (σ.set i (some v)) H := by
  have hi' : i < σ.length := by rw [← R.len]; exact hi
  refine ⟨R.fh, R.kh, by rw [List.length_set, List.length_set]; exact R.len, fun j s hj => ?_, R.sep.off rfl _, R.row, R.fra, R.kra, R.pn⟩
  by_cases hj2 : i = j
  · subst hj2
    rw [List.getElem?_set_self hi] at hj
    cases hj
    exact ⟨v, by rw [List.getElem?_set_self hi'], r⟩
  · rw [List.getElem?_set_ne hj2] at hj
    rw [List.getElem?_set_ne hj2]
    exact R.sl j s hj
/-- a name gets a container of its own -/
theorem Rel.setC (R : Rel w K ra HK F e σ H) {i : Nat} (hi : i < e.sl.length) {s : Slot} {a : Addr} (ok : SlotOk w K ra HK F H (some (some (.ref a))) s) (n : ∀ p, Foot H s a p → NotIn e σ H p) : Rel w K ra HK F { e with sl := e.sl.set i s } (σ.set i (some (.ref a))) H := by
  have hi' : i < σ.length := by rw [← R.len]; exact hi
  refine ⟨R.fh, R.kh, by rw [List.length_set, List.length_set]; exact R.len, fun j t hj => ?_, R.sep.on hi' fun j s' a' p hij h c hs f => n p f j s' a' h c hs, R.row, R.fra, R.kra, R.pn⟩
  by_cases hj2 : i = j
  · subst hj2
    rw [List.getElem?_set_self hi] at hj
    cases hj
    rw [List.getElem?_set_self hi']
    exact ok
  · rw [List.getElem?_set_ne hj2] at hj
    rw [List.getElem?_set_ne hj2]
    exact R.sl j t hj
theorem Rel.setOwn (R : Rel w K ra HK F e σ H) {i : Nat} (hi : i < e.sl.length) {v : V} {o : OD} (t : TO w K ra HK σ e F H v o) : Rel w K ra HK F { e with sl := e.sl.set i (.own o) } (σ.set i (some v)) H := by
  obtain ⟨a, rfl, r, fa, ka, na, nd⟩ := t
  refine R.setC hi ⟨a, rfl, r, fa, ka, na⟩ fun p f => ?_
  rcases f with rfl | ⟨z, _⟩
  · exact nd
  · cases z
theorem Rel.setNo (R : Rel w K ra HK F e σ H) (i : Nat) (ov : Option V) : Rel w K ra HK F { e with sl := e.sl.set i .no } (σ.set i ov) H := by
  refine ⟨R.fh, R.kh, by rw [List.length_set, List.length_set]; exact R.len, fun j s hj => ?_, R.sep.off rfl _, R.row, R.fra, R.kra, R.pn⟩
  by_cases hj2 : i = j
  · subst hj2
    by_cases hi : i < e.sl.length
    · rw [List.getElem?_set_self hi] at hj
      cases hj
      trivial
    · rw [List.getElem?_eq_none (by rw [List.length_set]; omega)] at hj
      cases hj
  · rw [List.getElem?_set_ne hj2] at hj
    rw [List.getElem?_set_ne hj2]
    exact R.sl j s hj
end
/-! ### the judgement of statements -/
def okS (w : World) (K : PySem.W.Frag) (ra : Addr) (HK : Kp) (F : Hp) (D' : Ends) : Fl → Env → Prop := fun fl e' => ∀ σ' F' H', Same F F' → Rel w K ra HK F' e' σ' H' → (match fl with
  | .nx => D'.nx σ' H'
  | .bk => D'.bk σ' H'
  | .ct => D'.ct σ' H'
  | .rt d => ∀ v, Rep w K ra F' v d → D'.rt v H')
def tS (w : World) (K : PySem.W.Frag) (W : WX) (m : M Fl) : TS := fun D' σ H => ∃ ra HK F e, Rel w K ra HK F e σ H ∧ (m e).wp (okS w K ra HK F D') (exW w K ra HK F W)
theorem okS_mono {w : World} {K : PySem.W.Frag} {ra : Addr} {HK : Kp} {F F1 : Hp} {D' : Ends} (s : Same F F1) {fl : Fl} {e' : Env} (h : okS w K ra HK F D' fl e') : okS w K ra HK F1 D' fl e' := fun σ' F' H' s' => h σ' F' H' (s.trans s')
def PSM (X : Cx) (W : WX) (st : Stmt) (m : M Fl) : Prop := PS X st (tS X.w X.K W m)
def PSsM (X : Cx) (W : WX) (st : List Stmt) (m : M Fl) : Prop := PSs X st (tS X.w X.K W m)
theorem stepS {β α : Type} {T : RT β α} {w : World} {K : PySem.W.Frag} {ra : Addr} {HK : Kp} {F H : Hp} {W : WX} {e : Env} {σ : St} {m : M α} {g : α → M Fl} {D' : Ends} {Q : β → Hp → Prop} (R : Rel w K ra HK F e σ H)
    (h : (bindM m g e).wp (okS w K ra HK F D') (exW w K ra HK F W))
    (k : ∀ F' e' a b H', Same F F' → Rel w K ra HK F' e' σ H' → T w K ra HK σ e' F' H' b a → (g a e').wp (okS w K ra HK F' D') (exW w K ra HK F' W) → Q b H') : tG T w K W m σ H Q :=
  step (A := fun F => okS w K ra HK F D') R h (fun F' c e' s q => okS_mono s q) k
section
variable {X : Cx} {W : WX} {st : Stmt} {rest : List Stmt} {m n : M Fl} {e : Expr} {pos : Pos}
/-! ### blocks -/
def nxM : M Fl := pureM .nx
def seqM (m n : M Fl) : M Fl := bindM m fun fl => match fl with
  | .nx => n
  | fl => pureM fl
theorem pssm_nil : PSsM X W [] nxM := PSs.weaken pss_nil fun D' σ H h => by
  obtain ⟨ra, HK, F, e, R, h⟩ := h
  exact h σ F H (Same.refl F) R
theorem pssm_one (h : PSM X W st m) : PSsM X W [st] m := pss_one h
theorem pssm_cons (h1 : PSM X W st m) (h2 : PSsM X W rest n) : PSsM X W (st :: rest) (seqM m n) := by
  refine PSs.weaken (pss_cons h1 h2) ?_
  rintro D' σ H ⟨ra, HK, F, e, R, h⟩
  unfold seqM at h
  refine ⟨ra, HK, F, e, R, wp_mono (wp_bind.mp h) (fun fl e' q σ' F' H' s R' => ?_) fun _ _ q => q⟩
  cases fl with
  | nx => exact ⟨ra, HK, F', e', R', wp_mono q (fun _ _ z => okS_mono s z) fun _ _ z => exW_mono s z⟩
  | bk => exact q σ' F' H' s R'
  | ct => exact q σ' F' H' s R'
  | rt d => exact q σ' F' H' s R'
def retM (m : M D) : M Fl := bindM m fun d => pureM (.rt d)
theorem psm_ret {m : M D} (h : PM X W e m) : PSM X W (.Return (some e) pos) (retM m) := by
  refine PS.weaken (ps_ret h) ?_
  rintro D' σ H ⟨ra, HK, F, e, R, h⟩
  unfold retM at h
  refine stepS R h fun F1 e1 d v H1 s1 R1 r1 q1 => ?_
  exact q1 σ F1 H1 (Same.refl F1) R1 v r1
def dropM {α : Type} (m : M α) : M Fl := bindM m fun _ => pureM .nx
theorem psm_expr {m : M D} (h : PM X W e m) (hs : swapsWith e none pos.line X.env = pure false := by rfl) : PSM X W (.Expr e pos) (dropM m) := by
  refine PS.weaken (ps_expr h hs) ?_
  rintro D' σ H ⟨ra, HK, F, e, R, h⟩
  unfold dropM at h
  refine stepS R h fun F1 e1 d v H1 s1 R1 r1 q1 => ?_
  exact q1 σ F1 H1 (Same.refl F1) R1
theorem psm_if {c : Expr} {a b : List Stmt} {t : M Bool} {m n : M Fl} (hc : PMT X W c t) (ha : PSsM X W a m) (hb : PSsM X W b n) : PSM X W (.If c a b pos) (iteM t m n) := by
  refine PS.weaken (ps_if hc ha hb) ?_
  rintro D' σ H ⟨ra, HK, F, e, R, h⟩
  unfold iteM at h
  refine stepS R h fun F1 e1 x v H1 s1 R1 r1 q1 => ?_
  cases (show v = x from r1)
  cases x with
  | true =>
    rw [if_pos rfl] at q1
    exact iteT ⟨ra, HK, F1, e1, R1, q1⟩
  | false =>
    rw [if_neg Bool.false_ne_true] at q1
    exact iteF ⟨ra, HK, F1, e1, R1, q1⟩
/-! ### x = e -/
def asgM (i : Nat) (m : M D) : M Fl := bindM m fun d => bindM (setM i (.val d)) fun _ => pureM .nx
def asgO (i : Nat) (m : M OD) : M Fl := bindM m fun o => bindM (setM i (.own o)) fun _ => pureM .nx
theorem psm_set (i : Nat) {x : Str} {m : M D} {pos' : Pos} (he : PM X W e m) (hN : X.N.Nodup) (hi : X.N[i]? = some x := by rfl) (hx : Loc X.env.scope x := by first | exact Or.inl rfl | exact Or.inr rfl) (hs : swapsWith e (some (.Name x pos')) pos.line X.env = pure false := by rfl)
    (hf : X.fn x = true ∨ X.env.scope.names.lookup x = some .local := by first | exact .inl rfl | exact .inr rfl | assumption) : PSM X W (.Assign [.Name x pos'] e pos) (asgM i m) := by
  refine PS.weaken (ps_set hN hi hx he hs hf) ?_
  rintro D' σ H ⟨ra, HK, F, e, R, h⟩
  unfold asgM at h
  refine stepS R h fun F1 e1 d v H1 s1 R1 r1 q1 => ?_
  obtain ⟨h1, q2⟩ := wp_setM q1
  exact q2 _ F1 H1 (Same.refl F1) (R1.setVal h1 r1)
theorem psm_setO (i : Nat) {x : Str} {m : M OD} {pos' : Pos} (he : PMO X W e m) (hN : X.N.Nodup) (hi : X.N[i]? = some x := by rfl) (hx : Loc X.env.scope x := by first | exact Or.inl rfl | exact Or.inr rfl) (hs : swapsWith e (some (.Name x pos')) pos.line X.env = pure false := by rfl)
    (hf : X.fn x = true ∨ X.env.scope.names.lookup x = some .local := by first | exact .inl rfl | exact .inr rfl | assumption) : PSM X W (.Assign [.Name x pos'] e pos) (asgO i m) := by
  refine PS.weaken (ps_set hN hi hx he hs hf) ?_
  rintro D' σ H ⟨ra, HK, F, e, R, h⟩
  unfold asgO at h
  refine stepS R h fun F1 e1 d v H1 s1 R1 r1 q1 => ?_
  obtain ⟨h1, q2⟩ := wp_setM q1
  exact q2 _ F1 H1 (Same.refl F1) (R1.setOwn h1 r1)
/-! ### targets -/
/-- the names but these stand -/
def SB (is : List Nat) (σ σ' : St) : Prop := σ'.length = σ.length ∧ ∀ j, j ∉ is → σ'[j]? = σ[j]?
theorem SB.refl (σ : St) : SB [] σ σ := ⟨rfl, fun _ _ => rfl⟩
theorem SB.trans {is js : List Nat} {σ σ1 σ2 : St} (a : SB is σ σ1) (b : SB js σ1 σ2) : SB (is ++ js) σ σ2 := ⟨b.1.trans a.1, fun j h => by
  rw [List.mem_append, not_or] at h
  exact (b.2 j h.2).trans (a.2 j h.1)⟩
theorem SB.wiped {is : List Nat} {σ σ' : St} (h : SB is σ σ') {vs : List Nat} (hs : ∀ i ∈ is, i ∈ vs) : wipe σ' vs = wipe σ vs := by
  apply List.ext_getElem?
  intro j
  by_cases c : j ∈ vs
  · have key : ∀ (τ : St) (us : List Nat), j ∈ us → (wipe τ us)[j]? = if j < τ.length then some none else none := by
      intro τ us
      induction us with
      | nil => intro h; cases h
      | cons u us ih =>
        intro hj
        unfold L2.wipe
        by_cases e : u = j
        · subst e
          by_cases l : u < τ.length
          · rw [if_pos l, List.getElem?_set_self (by rw [wipe_length]; exact l)]
          · rw [if_neg l, List.getElem?_eq_none (by rw [List.length_set, wipe_length]; omega)]
        · rw [List.getElem?_set_ne e]
          exact ih (by
            rcases List.mem_cons.mp hj with z | z
            · exact absurd z.symm e
            · exact z)
    rw [key _ _ c, key _ _ c, h.1]
  · rw [wipe_out c, wipe_out c]
    exact h.2 j fun z => c (hs j z)
def tT (w : World) (K : PySem.W.Frag) (is : List Nat) (g : D → M Unit) : TG := fun v σ H Q => ∃ ra HK F e d, Rel w K ra HK F e σ H ∧ Rep w K ra F v d ∧ (g d e).wp (fun _ e' => ∀ σ' F' H', SB is σ σ' → Same F F' → Rel w K ra HK F' e' σ' H' → Q σ' H') (fun _ _ => False)
def tTs (w : World) (K : PySem.W.Frag) (is : List Nat) (g : List D → M Unit) : TGs := fun v σ H Q => ∃ ra HK F e d, Rel w K ra HK F e σ H ∧ RepA w K ra F v d ∧ (g d e).wp (fun _ e' => ∀ σ' F' H', SB is σ σ' → Same F F' → Rel w K ra HK F' e' σ' H' → Q σ' H') (fun _ _ => False)
def PGM (X : Cx) (tg : Expr) (is : List Nat) (g : D → M Unit) : Prop := PG X tg (tT X.w X.K is g)
def PGsM (X : Cx) (tg : List Expr) (is : List Nat) (g : List D → M Unit) : Prop := PGs X tg (tTs X.w X.K is g)
theorem PG.weaken {tg : Expr} {t t' : TG} (h : PG X tg t) (k : ∀ v σ H Q, t' v σ H Q → t v σ H Q) : PG X tg t' := ⟨fun pins s σ H v u Q I r hw => h.run pins s σ H v u Q I r (k _ _ _ _ hw)⟩
theorem PGs.weaken {tg : List Expr} {t t' : TGs} (h : PGs X tg t) (k : ∀ v σ H Q, t' v σ H Q → t v σ H Q) : PGs X tg t' := ⟨fun pins s σ H v u Q I r hw => h.run pins s σ H v u Q I r (k _ _ _ _ hw)⟩
theorem PG.or {tg : Expr} {t t' : TG} (h : PG X tg t) (h' : PG X tg t') : PG X tg (fun v σ H Q => t v σ H Q ∨ t' v σ H Q) := ⟨fun pins s σ H v u Q I r hw => by
  rcases hw with hw | hw
  · exact h.run pins s σ H v u Q I r hw
  · exact h'.run pins s σ H v u Q I r hw⟩
def gN (i : Nat) (d : D) : M Unit := setM i (.val d)
theorem pgm_name (i : Nat) {x : Str} (hN : X.N.Nodup) (hi : X.N[i]? = some x := by rfl) (hx : Loc X.env.scope x := by first | exact Or.inl rfl | exact Or.inr rfl) (hf : X.fn x = true ∨ X.env.scope.names.lookup x = some .local := by first | exact .inl rfl | exact .inr rfl | assumption) : PGM X (.Name x pos) [i] (gN i) := by
  refine PG.weaken (pg_name hN hi hx hf) ?_
  rintro v σ H Q ⟨ra, HK, F, e, d, R, r, h⟩
  unfold gN setM at h
  by_cases c : i < e.sl.length
  · simp only [if_pos c] at h
    exact h _ F H ⟨List.length_set .., fun j hj => List.getElem?_set_ne fun z => hj (by simp [z])⟩ (Same.refl F) (R.setVal c r)
  · simp only [if_neg c] at h
    exact h.elim
def gsNil (l : List D) : M Unit := match l with
  | [] => pureM ()
  | _ => errM
def gsCons (g : D → M Unit) (gs : List D → M Unit) (l : List D) : M Unit := match l with
  | d :: ds => bindM (g d) fun _ => gs ds
  | [] => errM
theorem pgsm_nil : PGsM X [] [] gsNil := PGs.weaken pgs_nil fun v σ H Q h => by
  obtain ⟨ra, HK, F, e, d, R, r, h⟩ := h
  cases r with
  | nil => exact ⟨rfl, h σ F H (SB.refl σ) (Same.refl F) R⟩
  | cons _ _ => exact h.elim
theorem pgsm_cons {a : Expr} {es : List Expr} {is js : List Nat} {g : D → M Unit} {gs : List D → M Unit} (h1 : PGM X a is g) (h2 : PGsM X es js gs) (hs : (assignEach (a :: es) X.env).map (·.2) = assign a X.env :: (assignEach es X.env).map (·.2) := by rfl) : PGsM X (a :: es) (is ++ js) (gsCons g gs) := by
  refine PGs.weaken (pgs_cons h1 h2 hs) ?_
  rintro v σ H Q ⟨ra, HK, F, e, d, R, r, h⟩
  cases r with
  | nil => exact h.elim
  | @cons v d vs ds r1 r2 =>
    refine ⟨v, vs, rfl, ra, HK, F, e, d, R, r1, wp_mono (wp_bind.mp h) (fun _ e' q σ' F' H' b s R' => ?_) fun _ _ q => q⟩
    exact ⟨ra, HK, F', e', ds, R', RepA.mono s r2, wp_mono q (fun _ e2 z σ2 F2 H2 b2 s2 R2 => z σ2 F2 H2 (b.trans b2) (s.trans s2) R2) fun _ _ z => z⟩
def gTupM (n : Nat) (gs : List D → M Unit) (d : D) : M Unit := match d with
  | .tup l => if l.length = n then gs l else errM
  | .lst l => if l.length = n then gs l else errM
  | _ => errM
theorem pgm_tup {es : List Expr} {k : Nat} {n : Nat} {is : List Nat} {gs : List D → M Unit} (h : PGsM X es is gs) (hc : X.calm = true := by rfl) (hn : (assignEach es X.env).length = n := by rfl) (hst : (assignEach es X.env).findIdx? (·.1) = none := by rfl) : PGM X (.Tuple es k pos) is (gTupM n gs) := by
  refine PG.weaken (PG.or (pg_tup hc h hn hst) (pg_lst hc h hn hst)) ?_
  rintro v σ H Q ⟨ra, HK, F, e, d, R, r, h⟩
  cases d with
  | tup l =>
    simp only [gTupM] at h
    by_cases c : l.length = n
    · rw [if_pos c] at h
      cases r with
      | @tup a vs ds h1 h2 => exact .inl ⟨a, vs, rfl, Same.seqT R.fh h1, by rw [h2.length]; exact c, ra, HK, F, e, l, R, h2, h⟩
    · rw [if_neg c] at h
      exact h.elim
  | lst l =>
    simp only [gTupM] at h
    by_cases c : l.length = n
    · rw [if_pos c] at h
      cases r with
      | @lst a vs ds h1 h2 => exact .inr ⟨a, vs, rfl, .of (R.fh _ _ h1), by rw [h2.length]; exact c, ra, HK, F, e, l, R, h2, h⟩
    · rw [if_neg c] at h
      exact h.elim
  | _ => exact h.elim
def asgG (m : M D) (g : D → M Unit) : M Fl := bindM m fun d => bindM (g d) fun _ => pureM .nx
/-- target = e -/
theorem psm_asg {tg : Expr} {m : M D} {is : List Nat} {g : D → M Unit} (he : PM X W e m) (hg : PGM X tg is g) (hg0 : ∀ d e x e', g d e ≠ .exc x e') (hs : swapsWithSole [tg] e pos.line X.env = pure false := by rfl) (hw : swappedStores [tg] e X.env = pure none := by rfl)
    (h1 : (assignEach [tg] X.env).map (·.2) = [assign tg X.env] := by rfl) : PSM X W (.Assign [tg] e pos) (asgG m g) := by
  refine PS.weaken (ps_asg he hg hs hw h1) ?_
  rintro D' σ H ⟨ra, HK, F, e, R, h⟩
  unfold asgG at h
  refine stepS R h fun F1 e1 d v H1 s1 R1 r1 q1 => ?_
  refine ⟨ra, HK, F1, e1, d, R1, r1, ?_⟩
  have q2 := wp_bind.mp q1
  cases eg : g d e1 with
  | ok u e2 =>
    rw [eg] at q2
    exact fun σ' F' H' _ s R' => q2 σ' F' H' s R'
  | exc x e2 => exact absurd eg (hg0 _ _ _ _)
  | err =>
    rw [eg] at q2
    exact q2
theorem gN_quiet (i : Nat) : ∀ d e x e', gN i d e ≠ .exc x e' := fun d e x e' h => by
  unfold gN setM at h
  split at h <;> cases h
theorem gsNil_quiet : ∀ d e x e', gsNil d e ≠ .exc x e' := fun d e x e' h => by
  cases d <;> cases h
theorem gsCons_quiet {g : D → M Unit} {gs : List D → M Unit} (h1 : ∀ d e x e', g d e ≠ .exc x e') (h2 : ∀ d e x e', gs d e ≠ .exc x e') : ∀ d e x e', gsCons g gs d e ≠ .exc x e' := fun d e x e' h => by
  cases d with
  | nil => cases h
  | cons d ds =>
    unfold gsCons bindM at h
    simp only at h
    cases eg : g d e with
    | ok u e2 =>
      rw [eg] at h
      exact h2 _ _ _ _ h
    | exc y e2 => exact h1 _ _ _ _ eg
    | err =>
      rw [eg] at h
      cases h
theorem gTup_quiet {n : Nat} {gs : List D → M Unit} (h2 : ∀ d e x e', gs d e ≠ .exc x e') : ∀ d e x e', gTupM n gs d e ≠ .exc x e' := fun d e x e' h => by
  unfold gTupM at h
  cases d with
  | tup l =>
    simp only at h
    split at h
    · exact h2 _ _ _ _ h
    · cases h
  | lst l =>
    simp only at h
    split at h
    · exact h2 _ _ _ _ h
    · cases h
  | _ => cases h
/-! ### x += n -/
def valM (i : Nat) : M D := fun e => match e.sl[i]? with
  | some (.val d) => .ok d e
  | _ => .err
theorem wp_valM {β : Type} {i : Nat} {g : D → M β} {e : Env} {A : β → Env → Prop} {B : Exn → Env → Prop} (h : (bindM (valM i) g e).wp A B) : ∃ d, e.sl[i]? = some (.val d) ∧ (g d e).wp A B := by
  unfold bindM valM at h
  cases q : e.sl[i]? with
  | none =>
    simp only [q] at h
    exact h.elim
  | some s =>
    cases s with
    | val d =>
      simp only [q] at h
      exact ⟨d, rfl, h⟩
    | _ =>
      simp only [q] at h
      exact h.elim
def augM (i : Nat) (m : M D) (f : D → D → Option D) : M Fl := bindM (valM i) fun x => bindM m fun d => bindM (liftO (f x d)) fun z => bindM (setM i (.val z)) fun _ => pureM .nx
theorem psm_augI (i : Nat) {x : Str} {m : M D} {op : Operator} {g : Int → Int → Int} {pos' : Pos} (ho : PIp X op (ipI g)) (he : PM X W e m) (hN : X.N.Nodup) (hi : X.N[i]? = some x := by rfl) (hx : Loc X.env.scope x := by first | exact Or.inl rfl | exact Or.inr rfl)
    (hf : X.fn x = true ∨ X.env.scope.names.lookup x = some .local := by first | exact .inl rfl | exact .inr rfl | assumption) : PSM X W (.AugAssign (.Name x pos') op e pos) (augM i m (intF (fun _ _ => true) g)) := by
  refine PS.weaken (ps_aug hN hi hx he ho hf) ?_
  rintro D' σ H ⟨ra, HK, F, e, R, h⟩
  unfold augM at h
  obtain ⟨d0, q, h0⟩ := wp_valM h
  obtain ⟨v, e1, r⟩ := R.sl i _ q
  refine ⟨v, e1, ?_⟩
  refine stepS R h0 fun F1 e1' d u H1 s1 R1 r1 q1 => ?_
  cases d0 with
  | int a =>
    cases d with
    | int b =>
      cases r
      cases r1
      refine ⟨a, b, rfl, rfl, ?_⟩
      have q2 : (bindM (setM i (.val (.int (g a b)))) (fun _ => pureM Fl.nx) e1').wp _ _ := q1
      obtain ⟨hl, q3⟩ := wp_setM q2
      exact q3 _ F1 H1 (Same.refl F1) (R1.setVal hl (.int _))
    | _ => exact q1.elim
  | _ => exact q1.elim
end
end Mi

set_option Elab.async false
set_option linter.all false
set_option maxRecDepth 100000
set_option maxHeartbeats 4000000
/-! Mi, part K: while, for, what is walked. -/
namespace Mi
open PySem PySem.Spec PyProof.Rows L2
/-! ### while -/
def Res.isErr {α : Type} : Res α → Bool
  | .err => true
  | _ => false
def whileN (t : M Bool) (b : M Fl) : Nat → M Fl
  | 0 => errM
  | n + 1 => bindM t fun c => if c = true then bindM b fun fl => (match fl with
    | .nx => whileN t b n
    | .ct => whileN t b n
    | .bk => pureM .nx
    | .rt d => pureM (.rt d)) else pureM .nx
open Classical in
/-- the loop: as many turns as it takes; no answer where it does not end -/
noncomputable def whileM (t : M Bool) (b : M Fl) : M Fl := fun e => if h : ∃ n, (whileN t b n e).isErr = false then whileN t b (Classical.choose h) e else .err
theorem whileN_more {t : M Bool} {b : M Fl} : ∀ (n : Nat) (e : Env), (whileN t b n e).isErr = false → whileN t b (n + 1) e = whileN t b n e
  | 0, e, h => by simp [whileN, errM, Res.isErr] at h
  | n + 1, e, h => by
    unfold whileN bindM
    unfold whileN bindM at h
    cases ht : t e with
    | err => rfl
    | exc x e' => rfl
    | ok c e1 =>
      rw [ht] at h
      simp only at h ⊢
      cases c with
      | false => simp
      | true =>
        simp only [if_true] at h ⊢
        try unfold bindM at h
        try unfold bindM
        cases hb : b e1 with
        | err => rfl
        | exc x e' => rfl
        | ok fl e2 =>
          rw [hb] at h
          simp only at h ⊢
          cases fl with
          | nx => exact whileN_more n e2 h
          | ct => exact whileN_more n e2 h
          | bk => rfl
          | rt d => rfl
theorem whileN_le {t : M Bool} {b : M Fl} {n m : Nat} {e : Env} (h : (whileN t b n e).isErr = false) (l : n ≤ m) : whileN t b m e = whileN t b n e := by
  induction m with
  | zero =>
    have : n = 0 := by omega
    subst this
    rfl
  | succ m ih =>
    by_cases c : n = m + 1
    · subst c
      rfl
    · have ih' := ih (by omega)
      rw [whileN_more m e (by rw [ih']; exact h), ih']
theorem whileM_eq {t : M Bool} {b : M Fl} {n : Nat} {e : Env} (h : (whileN t b n e).isErr = false) : whileM t b e = whileN t b n e := by
  have hex : ∃ n, (whileN t b n e).isErr = false := ⟨n, h⟩
  unfold whileM
  rw [dif_pos hex]
  have hc := Classical.choose_spec hex
  rcases Nat.le_total n (Classical.choose hex) with l | l
  · exact whileN_le h l
  · exact (whileN_le hc l).symm
theorem wp_notErr {α : Type} {r : Res α} {A : α → Env → Prop} {B : Exn → Env → Prop} (h : r.wp A B) : r.isErr = false := by
  cases r with
  | err => exact h.elim
  | _ => rfl
section
variable {X : Cx} {W : WX} {pos : Pos}
theorem psm_while {c : Expr} {body : List Stmt} {t : M Bool} {b : M Fl} (hp : PassesOwn (model X.prog X.w) X.A X.env X.xe) (hc : PMT X W c t) (hb : PSsM X W body b) : PSM X W (.While c body [] pos) (whileM t b) := by
  refine PS.weaken (ps_while hp hc hb) ?_
  rintro D' σ H ⟨ra, HK, F, e, R, h⟩
  have hn := wp_notErr h
  obtain ⟨n, he⟩ : ∃ n, (whileN t b n e).isErr = false := by
    by_cases hex : ∃ n, (whileN t b n e).isErr = false
    · exact hex
    · exfalso
      have : whileM t b e = .err := by
        unfold whileM
        rw [dif_neg hex]
      rw [this] at hn
      cases hn
  rw [whileM_eq he] at h
  refine ⟨fun m σ H => ∃ ra HK F e, Rel X.w X.K ra HK F e σ H ∧ (whileN t b m e).wp (okS X.w X.K ra HK F D') (exW X.w X.K ra HK F W), ⟨n, ra, HK, F, e, R, h⟩, ?_⟩
  rintro m σ1 H1 ⟨ra, HK, F, e, R, h⟩
  cases m with
  | zero => exact h.elim
  | succ m =>
    unfold whileN at h
    refine stepS R h fun F1 e1 x v H2 s1 R1 r1 q1 => ?_
    cases (show v = x from r1)
    cases x with
    | false => exact iteF (q1 σ1 F1 H2 (Same.refl F1) R1)
    | true =>
      refine iteT ⟨fun σ' H' => ∃ ra HK F e, Rel X.w X.K ra HK F e σ' H' ∧ (whileN t b m e).wp (okS X.w X.K ra HK F D') (exW X.w X.K ra HK F W), fun σ' H' q => ⟨m, Nat.lt_succ_self m, q⟩, ?_⟩
      rw [if_pos rfl] at q1
      refine ⟨ra, HK, F1, e1, R1, wp_mono (wp_bind.mp q1) (fun fl e2 q σ' F' H' s R' => ?_) fun _ _ q => q⟩
      cases fl with
      | nx => exact ⟨ra, HK, F', e2, R', wp_mono q (fun _ _ z => okS_mono s z) fun _ _ z => exW_mono s z⟩
      | ct => exact ⟨ra, HK, F', e2, R', wp_mono q (fun _ _ z => okS_mono s z) fun _ _ z => exW_mono s z⟩
      | bk => exact q σ' F' H' s R'
      | rt d => exact q σ' F' H' s R'
/-! ### for -/
def forM' (g : D → M Unit) (b : M Fl) : List D → M Fl
  | [] => nxM
  | d :: ds => bindM (g d) fun _ => bindM b fun fl => match fl with
    | .nx => forM' g b ds
    | .ct => forM' g b ds
    | .bk => pureM .nx
    | .rt d => pureM (.rt d)
/-- what is walked: these things, one after another (a tuple may be made for each) -/
structure ItOk (w : World) (K : PySem.W.Frag) (ra : Addr) (F0 : Hp) (J : It) (ds : List D) : Prop where
  go : ∀ (i : Nat) (F H : Hp), Same F0 F → Same F H → i < ds.length → J.go i H
  stop : ∀ (i : Nat) (F H : Hp), Same F0 F → Same F H → i = ds.length → J.stop i H
  yld : ∀ (i : Nat) (F H : Hp) (x : V) (H' : Hp), Same F0 F → Same F H → i < ds.length → J.yld i H x H' → ∃ d, ds[i]? = some d ∧
    ((H' = H ∧ Rep w K ra F0 x d) ∨ ∃ p o, H p = none ∧ H' = upd H p o ∧ ∀ F1, Same F0 F1 → F1 p = some o → Rep w K ra F1 x d)
def tI (w : World) (K : PySem.W.Frag) (W : WX) (m : M (List D)) : TI := fun σ H Rr => ∃ ra HK F e, Rel w K ra HK F e σ H ∧
  (m e).wp (fun ds e' => ∀ J F' H', Same F F' → Rel w K ra HK F' e' σ H' → ItOk w K ra F' J ds → Rr J H') (exW w K ra HK F W)
def PIM (X : Cx) (W : WX) (tg iter : Expr) (m : M (List D)) : Prop := PI X tg iter (tI X.w X.K W m)
theorem PI.weaken {tg it : Expr} {t t' : TI} (h : PI X tg it t) (k : ∀ σ H Q, t' σ H Q → t σ H Q) : PI X tg it t' := ⟨fun pins s σ H Rr I hw => h.run pins s σ H Rr I (k _ _ _ hw)⟩
/-- a turn's value, as the mirror has it -/
theorem Rel.turn {w : World} {K : PySem.W.Frag} {ra : Addr} {HK : Kp} {F0 F H H' : Hp} {e : Env} {σ : St} {J : It} {ds : List D} (R : Rel w K ra HK F e σ H) (ok : ItOk w K ra F0 J ds) (s : Same F0 F) {i : Nat} (hi : i < ds.length) {x : V} (y : J.yld i H x H') :
    ∃ d F', ds[i]? = some d ∧ Same F F' ∧ Rel w K ra HK F' e σ H' ∧ Rep w K ra F' x d := by
  obtain ⟨d, hd, ⟨rfl, r⟩ | ⟨p, o, hp, rfl, k⟩⟩ := ok.yld i F H x H' s R.fh hi y
  · exact ⟨d, F, hd, Same.refl F, R, r.mono s⟩
  · obtain ⟨R2, s2⟩ := R.alloc hp o
    exact ⟨d, _, hd, s2, R2, k _ (s.trans s2) upd_same⟩
def forL (mi : M (List D)) (g : D → M Unit) (b : M Fl) : M Fl := bindM mi fun ds => forM' g b ds
theorem drop_cons {α : Type} {l : List α} {i : Nat} {a : α} (h : l[i]? = some a) : l.drop i = a :: l.drop (i + 1) := by
  obtain ⟨hi, e⟩ := List.getElem?_eq_some_iff.mp h
  rw [List.drop_eq_getElem_cons hi, e]
theorem psm_for {tg iter : Expr} {body : List Stmt} {mi : M (List D)} {is : List Nat} {g : D → M Unit} {b : M Fl} (hp : PassesOwn (model X.prog X.w) X.A X.env X.xe) (hc : X.calm = true) (hi : PIM X W tg iter mi) (hg : PGM X tg is g) (hg0 : ∀ d e x e', g d e ≠ .exc x e') (hb : PSsM X W body b)
    (hs : ∀ x, foldedSetIterable iter X.env x = pure x := by intro _; rfl) : PSM X W (.For tg iter body [] pos) (forL mi g b) := by
  refine PS.weaken (ps_for hp hc hi hg hb hs) ?_
  rintro D' σ H ⟨ra, HK, F, e, R, h⟩
  unfold forL at h
  refine ⟨ra, HK, F, e, R, wp_mono (wp_bind.mp h) (fun ds e' q J F0 H1 s R1 ok => ?_) fun _ _ q => q⟩
  refine ⟨fun i m σ H => m = ds.length - i ∧ i ≤ ds.length ∧ ∃ F e, Same F0 F ∧ Rel X.w X.K ra HK F e σ H ∧ (forM' g b (ds.drop i) e).wp (okS X.w X.K ra HK F D') (exW X.w X.K ra HK F W),
    ⟨ds.length, rfl, Nat.zero_le _, F0, e', Same.refl F0, R1, wp_mono q (fun _ _ z => okS_mono s z) fun _ _ z => exW_mono s z⟩, ?_⟩
  rintro i m σ2 H2 ⟨rfl, hil, F2, e2, s2, R2, h2⟩
  by_cases hlt : i < ds.length
  · refine .inr ⟨ok.go i F2 H2 s2 R2.fh hlt, fun σ' H' => ∃ F e, Same F0 F ∧ Rel X.w X.K ra HK F e σ' H' ∧ (forM' g b (ds.drop (i + 1)) e).wp (okS X.w X.K ra HK F D') (exW X.w X.K ra HK F W), fun σ' H' z => ⟨ds.length - (i + 1), by omega, rfl, hlt, z⟩, fun x H3 y => ?_⟩
    obtain ⟨d, F3, hd, s3, R3, r3⟩ := R2.turn ok s2 hlt y
    rw [drop_cons hd] at h2
    have h3 : (bindM (g d) (fun _ => bindM b fun fl => match fl with
      | .nx => forM' g b (ds.drop (i + 1))
      | .ct => forM' g b (ds.drop (i + 1))
      | .bk => pureM .nx
      | .rt d => pureM (.rt d)) e2).wp (okS X.w X.K ra HK F2 D') (exW X.w X.K ra HK F2 W) := h2
    have h4 := wp_bind.mp h3
    refine ⟨ra, HK, F3, e2, d, R3, r3, ?_⟩
    cases eg : g d e2 with
    | exc x e3 => exact absurd eg (hg0 _ _ _ _)
    | err =>
      rw [eg] at h4
      exact h4
    | ok u e3 =>
      rw [eg] at h4
      intro σ4 F4 H4 _ s4 R4
      refine ⟨ra, HK, F4, e3, R4, wp_mono (wp_bind.mp h4) (fun fl e5 q5 σ5 F5 H5 s5 R5 => ?_) fun _ _ q5 => exW_mono (s3.trans s4) q5⟩
      have st : Same F2 F5 := (s3.trans s4).trans s5
      cases fl with
      | nx => exact ⟨F5, e5, s2.trans st, R5, wp_mono q5 (fun _ _ z => okS_mono st z) fun _ _ z => exW_mono st z⟩
      | ct => exact ⟨F5, e5, s2.trans st, R5, wp_mono q5 (fun _ _ z => okS_mono st z) fun _ _ z => exW_mono st z⟩
      | bk => exact q5 σ5 F5 H5 st R5
      | rt d => exact q5 σ5 F5 H5 st R5
  · have e : i = ds.length := by omega
    subst e
    rw [List.drop_length] at h2
    exact .inl ⟨ok.stop _ F2 H2 s2 R2.fh rfl, h2 σ2 F2 H2 (Same.refl F2) R2⟩
/-! ### what is walked: lists, tuples -/
theorem itok_list {w : World} {K : PySem.W.Frag} {ra : Addr} {F : Hp} {a : Addr} {vs : List V} {ds : List D} (h : F a = some (.lst vs)) (r : RepA w K ra F vs ds) : ItOk w K ra F (Itl K a) ds where
  go := fun i F1 H s1 s2 hi => by
    obtain ⟨v, hv, _⟩ := r.get (List.getElem?_eq_getElem hi)
    exact ⟨vs, v, .of (s2 _ _ (s1 _ _ h)), hv⟩
  stop := fun i F1 H s1 s2 hi => ⟨vs, .of (s2 _ _ (s1 _ _ h)), by rw [r.length, hi]; exact Nat.le_refl _⟩
  yld := fun i F1 H x H' s1 s2 hi y => by
    obtain ⟨e, k⟩ := y
    have hx := k vs (.of (s2 _ _ (s1 _ _ h)))
    obtain ⟨d, hd, rd⟩ := r.get' hx
    exact ⟨d, hd, .inl ⟨e, rd⟩⟩
theorem itok_tup {w : World} {K : PySem.W.Frag} {ra : Addr} {F : Hp} {a : Addr} {vs : List V} {ds : List D} (h : SqT K F a vs) (r : RepA w K ra F vs ds) : ItOk w K ra F (Itt K a) ds where
  go := fun i F1 H s1 s2 hi => by
    obtain ⟨v, hv, _⟩ := r.get (List.getElem?_eq_getElem hi)
    exact ⟨vs, v, Same.seqT s2 (Same.seqT s1 h), hv⟩
  stop := fun i F1 H s1 s2 hi => ⟨vs, Same.seqT s2 (Same.seqT s1 h), by rw [r.length, hi]; exact Nat.le_refl _⟩
  yld := fun i F1 H x H' s1 s2 hi y => by
    obtain ⟨e, k⟩ := y
    have hx := k vs (Same.seqT s2 (Same.seqT s1 h))
    obtain ⟨d, hd, rd⟩ := r.get' hx
    exact ⟨d, hd, .inl ⟨e, rd⟩⟩
theorem PI.or {tg it : Expr} {t t' : TI} (h : PI X tg it t) (h' : PI X tg it t') : PI X tg it (fun σ H Q => t σ H Q ∨ t' σ H Q) := ⟨fun pins s σ H Rr I hw => by
  rcases hw with hw | hw
  · exact h.run pins s σ H Rr I hw
  · exact h'.run pins s σ H Rr I hw⟩
end
end Mi

set_option Elab.async false
set_option linter.all false
set_option maxRecDepth 100000
set_option maxHeartbeats 4000000
/-! Mi, part L: walks of dicts, enumerate, zip, range; the library's walks as turns. -/
namespace PySem
open Sem (wp)
open AutoSeq1 (wpAny_loadPart')
theorem meets_enumerate_newB1 {v : Value} {o : Obj} {H : Heap → Prop} (B : Begins v o H) :
    Meets (Builtin.«enumerate.__new__» ⟨[.type "enumerate", v], []⟩) (fun _ R s => H s.heap ∧
      R (.ok (.ret (.ref (s.heap.push o).objs.size))) { s with heap := (s.heap.push o).push { cls := .type "enumerate", data := .fields #[.none, .bool false, .ref s.heap.objs.size, rawInt 0, .none, .none] } }) :=
  .of_wp fun prog w A R s h => by
    obtain ⟨hp, g, d, tk, os⟩ := s; obtain ⟨h1, h⟩ := h
    have hsub := sub_enumerate
    have q1 : ∀ {A' : Around} {E : Value → Shared → Prop} {Q : Value → Shared → Prop}, Q (.ref hp.objs.size) ⟨hp.push o, g, d, tk, os⟩ → wpAny (model prog w) A' (pyIter v) Q E ⟨hp, g, d, tk, os⟩ :=
      fun q => B.iter prog w _ _ ⟨hp, g, d, tk, os⟩ _ h1 q
    wp_walk using q1
    refine wpAny_stack_any fun st => wpAny_pure ?_
    split
    · rename_i c _ _ _ _ _
      cases (c == Value.type "enumerate")
      · wp_walk using q1
        exact ⟨_, rfl, h⟩
      · wp_walk using q1
        exact ⟨_, rfl, h⟩
    · wp_walk using q1
      exact ⟨_, rfl, h⟩
theorem enum_begins1 {prog : Program} {w : World} {A : Around} {E : Value → Shared → Prop} {s : Shared} {v : Value} {o : Obj} {H : Heap → Prop} {Q : Value → Shared → Prop} (B : Begins v o H) (h1 : H s.heap)
    (h : ∀ h', IsEnum h' (s.heap.objs.size + 1) s.heap.objs.size 0 .none → h'.get? s.heap.objs.size = some o → h'.objs.size = s.heap.objs.size + 2 →
      (∀ b o, s.heap.get? b = some o → h'.get? b = some o) → Q (.ref (s.heap.objs.size + 1)) { s with heap := h' }) :
    wpAny (model prog w) A (call (.type "enumerate") [v]) Q E s := by
  refine callType_new F.called_enumerate (by decide) (F.typeCall_enumerate_1 _) (F.newCall_enumerate_1 _) (fun obj => F.args_object_init_2 obj _) F.entry_enumerate_new
    (meets_enumerate_newB1 B) ⟨h1, ?_⟩
  have hz : (s.heap.push o).objs.size = s.heap.objs.size + 1 := Heap.size_push ..
  show _ ∧ _
  rw [hz]
  have he : IsEnum ((s.heap.push o).push { cls := .type "enumerate", data := .fields #[.none, .bool false, .ref s.heap.objs.size, rawInt 0, .none, .none] }) (s.heap.objs.size + 1) s.heap.objs.size 0 .none := by
    have := Heap.get?_push_size (s.heap.push o) (o := { cls := .type "enumerate", data := .fields #[.none, .bool false, .ref s.heap.objs.size, rawInt 0, .none, .none] }) rfl
    rw [hz] at this; exact this
  refine ⟨⟨_, he, rfl⟩, h _ he (Heap.get?_push_of_some _ (Heap.get?_push_size _ B.free)) (by rw [Heap.size_push, hz]) fun b o x => Heap.get?_push_of_some _ (Heap.get?_push_of_some _ x)⟩
end PySem
namespace Mi
open PySem PySem.Spec PyProof.Rows L2

/-! ### the library's walks as turns -/
/-- things that stand: x i is yielded at turn i -/
def ItP (HS : Hp → Prop) (n : Nat) (x : Nat → V → Prop) : It := ⟨fun i H => HS H ∧ i < n, fun i H v H' => H' = H ∧ x i v, fun i H => HS H ∧ i = n⟩
/-- a new pair at each turn -/
def It2 (HS : Hp → Prop) (n : Nat) (p : Nat → V → V → Prop) : It := ⟨fun i H => HS H ∧ i < n, fun i H v H' => ∃ T v1 v2, v = .ref T ∧ H T = none ∧ H' = upd H T (.tup [v1, v2]) ∧ p i v1 v2, fun i H => HS H ∧ i = n⟩
section
variable {P : Program} {w : World} {K : PySem.W.Frag} {tg : Expr} {it : Addr} {fpT fp wr : List Addr} {n : Nat} {γ : Type} {sz : γ → Nat} {Y : γ → Nat → Heap → Value → Heap → Prop} {St : γ → Nat → Heap → Prop} {StI : Nat → Heap → Prop} {Src : γ → Heap → Prop} {HS : Hp → Prop}
theorem turn_plain {x : Nat → V → Prop} (hself : ∀ (A : Around) (i : Nat) (s : Shared) (Q : Value → Shared → Prop) (E : Value → Shared → Prop), StI i s.heap → Q (.ref it) s → wpAny (model P w) A (pyIter (.ref it)) Q E s) (hit : it ∈ fpT) (hsub : ∀ b ∈ wr, b ∈ fpT) (G : ∀ (A : Around) (c : γ), A.handled = none → GoesN P w A tg it fp wr (sz c) (Y c) (St c)) (hSt : ∀ c i h, St c i h ↔ StI i h ∧ Src c h)
    (hkeep : ∀ i h h', StI i h → (∀ b ∈ fpT, ∀ o, h.get? b = some o → h'.get? b = some o) → StI i h') (hobj : ∀ i h, StI i h → ∀ b ∈ fpT, ∃ o, h.get? b = some o ∧ ∀ v, o.data ≠ .cell v)
    (hsrc : ∀ (X : Cx), X.prog = P → X.w = w → X.K = K → ∀ (pins : List (Addr × Obj)) (s : Shared) (σ : L2.St) (H : Hp), Inv X pins σ H s → HS H → ∃ c, Src c s.heap ∧ sz c = n ∧ ∀ i v h', i < n → Y c i s.heap v h' → ∃ y, RelV y v ∧ x i y) :
    Turn P w K tg (ItP HS n x) fpT it StI where
  mem := hit
  obj := hobj
  keep := hkeep
  item := by
    intro X hP hw hK hc i pins s σ H E I hf st hg
    obtain ⟨hs, hi⟩ := hg
    obtain ⟨c, sc, ec, hy⟩ := hsrc X hP hw hK pins s σ H I hs
    subst hP hw hK
    refine (G X.A c (I.ok.hd hc)).goes i s (fun v s2 => ∃ x_1 H', Inv X pins σ H' s2 ∧ RelV x_1 v ∧ (ItP HS n x).yld i H x_1 H' ∧ StI (i + 1) s2.heap ∧ ∀ b ∈ fpT, H' b = none) E (by omega) ((hSt c i _).mpr ⟨st, sc⟩) fun v h' tk hY st' hk _ => ?_
    obtain ⟨y, ry, hx⟩ := hy i v h' hi hY
    refine ⟨y, H, I.turnedL (t' := tk) (ch := fpT) (fun b o hb e => hk b o (fun z => hb (hsub b z)) e) hf, ry, ⟨rfl, hx⟩, ((hSt c _ _).mp st').1, fun b hb => (hf b hb).1⟩
  done := by
    intro X hP hw hK hc i pins s σ H E I hf st hg
    obtain ⟨hs, hi⟩ := hg
    obtain ⟨c, sc, ec, hy⟩ := hsrc X hP hw hK pins s σ H I hs
    subst hP hw hK
    have e : i = sz c := by omega
    subst e
    exact (G X.A c (I.ok.hd hc)).stops s (fun s1 => Inv X pins σ H s1) E ((hSt c _ _).mpr ⟨st, sc⟩) fun h' tk hk _ => I.turnedL (t' := tk) (ch := fpT) (fun b o hb e => hk b o (fun z => hb (hsub b z)) e) hf
  self := hself
/-- a new pair at each turn -/
theorem turn_pairs {p : Nat → V → V → Prop} (hself : ∀ (A : Around) (i : Nat) (s : Shared) (Q : Value → Shared → Prop) (E : Value → Shared → Prop), StI i s.heap → Q (.ref it) s → wpAny (model P w) A (pyIter (.ref it)) Q E s) (hit : it ∈ fpT) (hsub : ∀ b ∈ wr, b ∈ fpT)
    (G : ∀ (A : Around) (c : γ), A.handled = none → GoesN P w A tg it fp wr (sz c) (Y c) (St c)) (hSt : ∀ c i h, St c i h ↔ StI i h ∧ Src c h)
    (hkeep : ∀ i h h', StI i h → (∀ b ∈ fpT, ∀ o, h.get? b = some o → h'.get? b = some o) → StI i h') (hobj : ∀ i h, StI i h → ∀ b ∈ fpT, ∃ o, h.get? b = some o ∧ ∀ v, o.data ≠ .cell v)
    (hsrc : ∀ (X : Cx), X.prog = P → X.w = w → X.K = K → ∀ (pins : List (Addr × Obj)) (s : Shared) (σ : L2.St) (H : Hp), Inv X pins σ H s → HS H → ∃ c, Src c s.heap ∧ sz c = n ∧
      ∀ i v h', i < n → Y c i s.heap v h' → ∃ T a b y1 y2, v = .ref T ∧ s.heap.objs.size ≤ T ∧ IsTup h' T #[a, b] ∧ RelV y1 a ∧ RelV y2 b ∧ p i y1 y2) :
    Turn P w K tg (It2 HS n p) fpT it StI where
  mem := hit
  obj := hobj
  keep := hkeep
  item := by
    intro X hP hw hK hc i pins s σ H E I hf st hg
    obtain ⟨hs, hi⟩ := hg
    obtain ⟨c, sc, ec, hy⟩ := hsrc X hP hw hK pins s σ H I hs
    subst hP hw hK
    refine (G X.A c (I.ok.hd hc)).goes i s (fun v s2 => ∃ x_1 H', Inv X pins σ H' s2 ∧ RelV x_1 v ∧ (It2 HS n p).yld i H x_1 H' ∧ StI (i + 1) s2.heap ∧ ∀ b ∈ fpT, H' b = none) E (by omega) ((hSt c i _).mpr ⟨st, sc⟩) fun v h' tk hY st' hk _ => ?_
    obtain ⟨T, a, b, y1, y2, rfl, hT, hTup, ra, rb, hp⟩ := hy i v h' hi hY
    have new : ObjOk X.prog X.w (upd H T (.tup [y1, y2])) h' T (.tup [y1, y2]) :=
      ⟨by show 2 ≤ sizeLine; decide, [a, b], .cons ra (.cons rb .nil), hTup⟩
    refine ⟨.ref T, _, I.turnedNew (t' := tk) (ch := fpT) (fun b o hb e => hk b o (fun z => hb (hsub b z)) e) hf hT new, rfl, ⟨T, y1, y2, rfl, I.hok.fresh hT, rfl, hp⟩, ((hSt c _ _).mp st').1, fun b hb => ?_⟩
    obtain ⟨o, e, _⟩ := hobj _ _ st b hb
    rw [upd_ne (Nat.ne_of_lt (Nat.lt_of_lt_of_le (Heap.lt_size e) hT))]
    exact (hf b hb).1
  done := by
    intro X hP hw hK hc i pins s σ H E I hf st hg
    obtain ⟨hs, hi⟩ := hg
    obtain ⟨c, sc, ec, hy⟩ := hsrc X hP hw hK pins s σ H I hs
    subst hP hw hK
    have e : i = sz c := by omega
    subst e
    exact (G X.A c (I.ok.hd hc)).stops s (fun s1 => Inv X pins σ H s1) E ((hSt c _ _).mpr ⟨st, sc⟩) fun h' tk hk _ => I.turnedL (t' := tk) (ch := fpT) (fun b o hb e => hk b o (fun z => hb (hsub b z)) e) hf
  self := hself
end
/-- what a walk of pairs gives the mirror -/
theorem itok_pairs {w : World} {K : PySem.W.Frag} {ra : Addr} {F : Hp} {HS : Hp → Prop} {n : Nat} {p : Nat → V → V → Prop} {ds : List D} (hn : ds.length = n) (hs : ∀ F1 H, Same F F1 → Same F1 H → HS H)
    (hp : ∀ i v1 v2, i < n → p i v1 v2 → ∃ d1 d2, ds[i]? = some (.tup [d1, d2]) ∧ Rep w K ra F v1 d1 ∧ Rep w K ra F v2 d2) : ItOk w K ra F (It2 HS n p) ds where
  go := fun i F1 H s1 s2 hi => ⟨hs _ _ s1 s2, by omega⟩
  stop := fun i F1 H s1 s2 hi => ⟨hs _ _ s1 s2, by omega⟩
  yld := fun i F1 H x H' s1 s2 hi y => by
    obtain ⟨T, v1, v2, rfl, hT, rfl, hpp⟩ := y
    obtain ⟨d1, d2, hd, r1, r2⟩ := hp i v1 v2 (by omega) hpp
    exact ⟨_, hd, .inr ⟨T, .tup [v1, v2], hT, rfl, fun F2 s3 e => .tup (.of e) (.cons (r1.mono s3) (.cons (r2.mono s3) .nil))⟩⟩
theorem itok_plain {w : World} {K : PySem.W.Frag} {ra : Addr} {F : Hp} {HS : Hp → Prop} {n : Nat} {p : Nat → V → Prop} {ds : List D} (hn : ds.length = n) (hs : ∀ F1 H, Same F F1 → Same F1 H → HS H)
    (hp : ∀ i v, i < n → p i v → ∃ d, ds[i]? = some d ∧ Rep w K ra F v d) : ItOk w K ra F (ItP HS n p) ds where
  go := fun i F1 H s1 s2 hi => ⟨hs _ _ s1 s2, by omega⟩
  stop := fun i F1 H s1 s2 hi => ⟨hs _ _ s1 s2, by omega⟩
  yld := fun i F1 H x H' s1 s2 hi y => by
    obtain ⟨rfl, hpp⟩ := y
    obtain ⟨d, hd, r⟩ := hp i x (by omega) hpp
    exact ⟨d, hd, .inl ⟨rfl, r⟩⟩

/-! ### enumerate(tuple) -/
def enumP (vs : List V) (i : Nat) (v1 v2 : V) : Prop := v1 = .int (i : Int) ∧ vs[i]? = some v2
theorem turn_enumT {P : Program} {w : World} {K : PySem.W.Frag} {elts : List Expr} {kk : Nat} {tpos : Pos} (t e it : Addr) (vs : List V) (hne : e ≠ it) (het : e ≠ t) (hti : t ≠ it) :
    Turn P w K (.Tuple elts kk tpos) (It2 (fun H => SqT K H t vs) vs.length (enumP vs)) [e, it] e (fun i h => (∃ old, IsEnum h e it ((i : Nat) : Int) old) ∧ h.IsTupleIter it t i) := by
  refine turn_pairs (γ := Array Value) (sz := fun its => its.size) (fp := [e, it, t]) (wr := [e, it]) (St := fun its i h => (∃ old, IsEnum h e it (0 + (i : Int)) old) ∧ (h.IsTupleIter it t i ∧ h.IsTuple t its))
    (Src := fun its h => h.IsTuple t its) (fun A i s Q E st h => let ⟨⟨_, he⟩, _⟩ := st; wpAny_pyIter_enum he h) (by simp) (fun b hb => hb)
    (fun A its hh => GoesN.enumFrom 0 (Draws.tuple (show A.in1.handled = none from hh) it t hti its) e hne (by simp [hne, het]) (by simp))
    (fun c i h => by
      have e1 : (0 : Int) + (i : Int) = i := by omega
      rw [e1]
      exact ⟨fun z => ⟨⟨z.1, z.2.1⟩, z.2.2⟩, fun z => ⟨z.1.1, z.1.2, z.2⟩⟩)
    (fun i h h' st k => let ⟨⟨old, he⟩, hi⟩ := st; ⟨⟨old, k e (by simp) _ he⟩, hi.at fun o q => k it (by simp) o q⟩)
    (fun i h st b hb => by
      obtain ⟨⟨old, he⟩, ⟨o, ho, hc, hd⟩⟩ := st
      have e' : b = e ∨ b = it := by simpa using hb
      rcases e' with z | z
      · rw [z]; exact ⟨_, he, fun v q => nomatch q⟩
      · rw [z]; exact ⟨o, ho, fun v q => by rw [hd] at q; cases q⟩) ?_
  intro X hP hw hK pins s σ H I hs
  subst hP hw hK
  obtain ⟨its, rv, p, hz⟩ := I.tuple hs
  refine ⟨its.toArray, p, by simp [rv.length], fun i v h' hi y => ?_⟩
  obtain ⟨T, tk, x, rfl, hT, hx, hTup⟩ := y
  have hx' : its[i]? = some x := by simpa using hx
  obtain ⟨y2, hy2, ry2⟩ : ∃ y2, vs[i]? = some y2 ∧ RelV y2 x := by
    obtain ⟨u, hu, ru⟩ := rv.get (List.getElem?_eq_getElem hi)
    rw [hx'] at hu
    cases hu
    exact ⟨_, List.getElem?_eq_getElem hi, ru⟩
  refine ⟨T, _, x, .int (i : Int), y2, rfl, hT, hTup, ⟨tk, ?_⟩, ry2, rfl, hy2⟩
  have e1 : (0 : Int) + (i : Int) = i := by omega
  rw [e1]
def iEnumT (K : PySem.W.Frag) (ta : TA) : TI := fun σ H R => ta σ H fun vs H1 => ∃ a xs, vs = [.ref a] ∧ SqT K H1 a xs ∧ R (It2 (fun H => SqT K H a xs) xs.length (enumP xs)) H1
theorem pi_enumT {X : Cx} {e : Expr} {ta : TA} {p pos tpos : Pos} {elts : List Expr} {kk : Nat} (hg : Gl X "enumerate") (hm : X.mg "enumerate" = none) (ha : PA X [e] ta) (hs : starEach [e] X.env = [(false, eval e X.env)] := by rfl) :
    PI X (.Tuple elts kk tpos) (.Call (.Name "enumerate" p) [e] [] pos) (iEnumT X.K ta) := by
  refine ⟨fun pins s σ H R I h => ?_⟩
  refine Call_ (ld_blt I hg hm boot_enumerate (PyProof.Rows.callWith_type1 (thn (ha.run pos pins s σ H _ I h) fun us s1 ⟨vs, H1, I1, r1, q1⟩ => ?_) hs rfl))
  obtain ⟨a, xs, ex, hq, q⟩ := q1
  subst ex
  cases r1 with
  | cons r rr =>
    cases rr
    cases r
    obtain ⟨its, rv, p', hz⟩ := I1.tuple hq
    have lt : a < s1.heap.objs.size := by
      obtain ⟨o, ho, _⟩ := p'
      exact Heap.lt_size ho
    refine enum_begins1 (begins_tuple a its.toArray) p' fun h' he hit hsz hk => wpAny_pyIter_enum he ?_
    have I2 : Inv X pins σ H1 { s1 with heap := h' } := I1.kept (t' := s1.toks) hk
    refine ⟨s1.heap.objs.size + 1, [s1.heap.objs.size + 1, s1.heap.objs.size], _, _, H1, rfl, I2, turn_enumT a (s1.heap.objs.size + 1) s1.heap.objs.size xs (Nat.succ_ne_self _) (Nat.ne_of_gt (Nat.lt_succ_of_lt lt)) (Nat.ne_of_lt lt), ⟨⟨.none, he⟩, ⟨_, hit, rfl, rfl⟩⟩, fun b hb => ?_, q⟩
    have e' : b = s1.heap.objs.size + 1 ∨ b = s1.heap.objs.size := by simpa using hb
    have hle : s1.heap.objs.size ≤ b := by
      rcases e' with z | z
      · rw [z]; exact Nat.le_add_right _ _
      · rw [z]; exact Nat.le_refl _
    exact I1.fpOk hle (I1.hok.fresh hle)
end Mi

set_option Elab.async false
set_option linter.all false
set_option maxRecDepth 100000
set_option maxHeartbeats 4000000
/-! Mi, part N: what the mirror walks: lists, tuples, dicts, range, enumerate, zip, values, items. -/
namespace Mi
open PySem PySem.Spec PyProof.Rows L2
theorem paired_get {α β : Type} {R : α → β → Prop} : ∀ {xs : List α} {ys : List β} {i : Nat} {y : β}, Paired R xs ys → ys[i]? = some y → ∃ x, xs[i]? = some x ∧ R x y
  | _, _, i, y, .nil, h => by simp at h
  | _, _, 0, y, .cons a r, h => by
    simp at h
    subst h
    exact ⟨_, rfl, a⟩
  | _, _, i + 1, y, .cons a r, h => by
    obtain ⟨x, h1, h2⟩ := paired_get (i := i) r (by simpa using h)
    exact ⟨x, by simpa using h1, h2⟩
theorem RepE.getE {w : World} {K : PySem.W.Frag} {ra : Addr} {F : Hp} : ∀ {es : List (NestedKey × V × V)} {kvs : List (D × D)} {i : Nat} {e : NestedKey × V × V}, RepE w K ra F es kvs → es[i]? = some e → ∃ p, kvs[i]? = some p ∧ Rep w K ra F e.2.1 p.1 ∧ Rep w K ra F e.2.2 p.2
  | _, _, i, e, .nil, h => by simp at h
  | _, _, 0, e, .cons k a b r, h => by
    simp at h
    subst h
    exact ⟨_, rfl, a, b⟩
  | _, _, i + 1, e, .cons k a b r, h => by
    obtain ⟨x, h1, h2⟩ := RepE.getE (i := i) r (by simpa using h)
    exact ⟨x, by simpa using h1, h2⟩
/-! ### dicts -/
section
variable {P : Program} {w : World} {K : PySem.W.Frag} {tg : Expr} {a it : Addr} {o : Obj} {des : Array DictEntry} {ep : Nat} {es : List (NestedKey × V × V)}
theorem turn_rawKeys (hne : a ≠ it) (hd : o.data = .dict des ep) (hx : o.ExactDict) (pr : Paired (DEnt w) es des.toList) :
    Turn P w K tg (ItP (fun H => H a = some (objO a o)) des.size fun i y => ∃ e, es[i]? = some e ∧ y = e.2.1) [it] it (fun i h => h.IsKeyIter it a i des.size ep) := by
  refine turn_plain (γ := Unit) (sz := fun _ => des.size) (fp := [it, a]) (wr := [it]) (St := fun _ i h => h.IsKeyIter it a i des.size ep ∧ h.DictRaw a des ep) (Src := fun _ h => h.DictRaw a des ep)
    (fun A i s Q E st h => wpAny_pyIter_keyiter st h) (by simp) (fun b hb => hb) (fun A _ hh => (Goes.rawKeys hh it a hne des ep).toN) (fun _ _ _ => Iff.rfl) (fun i h h' st k => st.at fun o e => k it (by simp) o e)
    (fun i h st b hb => by
      obtain ⟨ob, ho, _, hd⟩ := st
      have e : b = it := by simpa using hb
      subst e
      exact ⟨ob, ho, fun v q => by rw [hd] at q; cases q⟩) ?_
  intro X hP hw hK pins s σ H I hs
  subst hP hw hK
  have ho : s.heap.get? a = some o := (show ObjOk X.prog X.w H s.heap a (objO a o) from I.hok a _ hs).1
  refine ⟨(), ⟨o, ho, hx, hd⟩, rfl, fun i v h' hi y => ?_⟩
  obtain ⟨hi', rfl⟩ := y
  obtain ⟨e, he, h1, h2, h3⟩ := paired_get (i := i) (y := des[i]) pr (by simp [hi'])
  exact ⟨e.2.1, h2, e, he, rfl⟩
theorem turn_rawItems {elts : List Expr} {kk : Nat} {tpos : Pos} (hne : a ≠ it) (hd : o.data = .dict des ep) (hx : o.ExactDict) (pr : Paired (DEnt w) es des.toList) :
    Turn P w K (.Tuple elts kk tpos) (It2 (fun H => H a = some (objO a o)) des.size fun i y z => ∃ e, es[i]? = some e ∧ y = e.2.1 ∧ z = e.2.2) [it] it (fun i h => ∃ ok ov, IsItemIter h it a i des.size ep ok ov) := by
  refine turn_pairs (γ := Unit) (sz := fun _ => des.size) (fp := [it, a]) (wr := [it]) (St := fun _ i h => (∃ ok ov, IsItemIter h it a i des.size ep ok ov) ∧ h.DictRaw a des ep) (Src := fun _ h => h.DictRaw a des ep)
    (fun A i s Q E st h => let ⟨_, _, st⟩ := st; wpAny_pyIter_itemiter st h) (by simp) (fun b hb => hb) (fun A _ hh => GoesN.rawItems hh it a hne des ep) (fun _ _ _ => Iff.rfl) (fun i h h' st k => let ⟨ok, ov, r⟩ := st; ⟨ok, ov, k it (by simp) _ r⟩)
    (fun i h st b hb => by
      obtain ⟨ok, ov, ho⟩ := st
      have e : b = it := by simpa using hb
      subst e
      exact ⟨_, ho, fun v q => nomatch q⟩) ?_
  intro X hP hw hK pins s σ H I hs
  subst hP hw hK
  have ho : s.heap.get? a = some o := (show ObjOk X.prog X.w H s.heap a (objO a o) from I.hok a _ hs).1
  refine ⟨(), ⟨o, ho, hx, hd⟩, rfl, fun i v h' hi y => ?_⟩
  obtain ⟨T, hi', rfl, hT, hTup⟩ := y
  obtain ⟨e, he, h1, h2, h3⟩ := paired_get (i := i) (y := des[i]) pr (by simp [hi'])
  exact ⟨T, _, _, e.2.1, e.2.2, rfl, hT, hTup, h2, h3, e, he, rfl, rfl⟩
end
def iRawD (w : World) (J : Addr → Obj → Nat → List (NestedKey × V × V) → It) (tl : TE) : TI := fun σ H R => tl σ H fun x H1 => ∃ (a : Addr) (es : List (NestedKey × V × V)) (o : Obj), x = .ref a ∧ H1 a = some (objO a o) ∧ DF w a es o ∧ R (J a o es.length es) H1
section
variable {X : Cx} {tg l : Expr} {tl : TE}
def JKeys (a : Addr) (o : Obj) (n : Nat) (es : List (NestedKey × V × V)) : It := ItP (fun H => H a = some (objO a o)) n fun i y => ∃ e, es[i]? = some e ∧ y = e.2.1
def JItems (a : Addr) (o : Obj) (n : Nat) (es : List (NestedKey × V × V)) : It := It2 (fun H => H a = some (objO a o)) n fun i y z => ∃ e, es[i]? = some e ∧ y = e.2.1 ∧ z = e.2.2
theorem pi_rawKeys (hl : PE X l tl) : PI X tg l (iRawD X.w JKeys tl) := by
  refine ⟨fun pins s σ H R I h => ?_⟩
  refine thn (hl.run pins s σ H _ I h) fun v s1 ⟨x, H1, I1, r1, a, es, o, ex, h1, ⟨hs, _, _, _, hx, des, ep, hd, pr⟩, q⟩ => ?_
  subst ex
  obtain rfl : v = Value.ref a := r1
  have ho : s1.heap.get? a = some o := (show ObjOk X.prog X.w H1 s1.heap a (objO a o) from I1.hok a _ h1).1
  have hl := Paired.length pr
  have hm : s1.heap.DictRaw a des ep := ⟨o, ho, hx, hd⟩
  refine wpAny_pyIter_dict_raw hs hm (pi_one (tk := s1.toks) I1 _ (turn_rawKeys (Nat.ne_of_lt (Heap.lt_size ho)) hd hx pr) ⟨_, Heap.get?_push_size _ rfl, rfl, rfl⟩ ?_)
  have e : des.size = es.length := by simp [hl]
  rw [e]
  exact q
variable {apos cpos : Pos}
theorem pi_rawItems {elts : List Expr} {kk : Nat} {tpos : Pos} (he : PE X l tl) (hbase : attributeBase l "items" X.env (eval l X.env) = eval l X.env := by rfl) (hline : (apos.endLine == cpos.line) = true := by rfl) : PI X (.Tuple elts kk tpos) (.Call (.Attribute l "items" apos) [] [] cpos) (iRawD X.w JItems tl) := by
  refine ⟨fun pins s σ H R I h => ?_⟩
  refine wpAny_Call_method (T := "dict") (id := "dict.items") hbase rfl hline F.plainAttrs_dict F.slot_dict_items F.type_dict_items (thn (he.run pins s σ H _ I h) fun u s1 ⟨x, H1, I1, r1, a, es, o, ex, h1, ⟨hs, _, _, _, hx, des, ep, hd, pr⟩, q⟩ => ?_)
  subst ex
  obtain rfl : u = Value.ref a := r1
  have ho : s1.heap.get? a = some o := (show ObjOk X.prog X.w H1 s1.heap a (objO a o) from I1.hok a _ h1).1
  have hl := Paired.length pr
  have hm : s1.heap.DictRaw a des ep := ⟨o, ho, hx, hd⟩
  refine ⟨hm.typeIs, fun b e => by cases e; exact ⟨o, ho, hx.2.1⟩, ?_⟩
  have I2 : Inv X pins σ H1 { s1 with heap := s1.heap.push { cls := .type "dict_items", data := .fields #[.ref a] } } := I1.kept (t' := s1.toks) fun b ob q => Heap.get?_push_of_some _ q
  have fin : wpAny (model X.prog X.w) X.A (pyIter (.ref s1.heap.objs.size)) (PIE X pins σ (.Tuple elts kk tpos) R) X.xe { s1 with heap := s1.heap.push { cls := .type "dict_items", data := .fields #[.ref a] } } := by
    refine wpAny_pyIter_items_raw ⟨_, Heap.get?_push_size _ rfl, rfl, rfl⟩ (hm.push _) (pi_one (tk := s1.toks) I2 _ (turn_rawItems (by rw [Heap.size_push]; exact Nat.ne_of_lt (Nat.lt_succ_of_lt (Heap.lt_size ho))) hd hx pr) ⟨.none, .none, Heap.get?_push_size _ rfl⟩ ?_)
    have e : des.size = es.length := by simp [hl]
    rw [e]
    exact q
  show wpAny _ _ (callWith cpos (.builtin "dict.items") [.ref a] [] []) _ X.xe s1
  exact method_meetsIn F.slot_dict_items F.entry_dict_items rfl (PySem.evalArgs_none ⟨rfl, hm.typeIs, F.args_dict_items_1 _, _, meets_dict_items_raw a hs, ⟨des, ep, hm⟩, fin⟩)
end

/-! ### the mirror's walks -/
def itemsD (d : D) : Option (List D) := match d with
  | .lst l => some l
  | .tup l => some l
  | .dct kvs => some (kvs.map (·.1))
  | _ => none
def walkM (m : M D) : M (List D) := bindM m fun d => liftO (itemsD d)
theorem RepE.keyAt {w : World} {K : PySem.W.Frag} {ra : Addr} {F : Hp} {es : List (NestedKey × V × V)} {kvs : List (D × D)} (r : RepE w K ra F es kvs) {i : Nat} {y : V} (h : ∃ e, es[i]? = some e ∧ y = e.2.1) : ∃ d, (kvs.map (·.1))[i]? = some d ∧ Rep w K ra F y d := by
  obtain ⟨e, he, rfl⟩ := h
  obtain ⟨p, hp, r1, _⟩ := r.getE he
  exact ⟨p.1, by simp [hp], r1⟩
section
variable {X : Cx} {W : WX} {tg it : Expr} {m : M D} {p pos : Pos}
theorem tG_ok {w : World} {K : PySem.W.Frag} {ra : Addr} {HK : Kp} {F H : Hp} {e e1 : Env} {σ : St} {d : D} {Q : VK} (R : Rel w K ra HK F e σ H) (hm : m e = .ok d e1) (h : okG TV w K ra HK F σ Q d e1) : tG TV w K W m σ H Q :=
  ⟨ra, HK, F, e, R, by rw [hm]; exact h⟩
theorem tG_exc {w : World} {K : PySem.W.Frag} {ra : Addr} {HK : Kp} {F H : Hp} {e e1 : Env} {σ : St} {x : Exn} {Q : VK} (R : Rel w K ra HK F e σ H) (hm : m e = .exc x e1) (h : exW w K ra HK F W x e1) : tG TV w K W m σ H Q :=
  ⟨ra, HK, F, e, R, by rw [hm]; exact h⟩
theorem pim_items (h : PM X W it m) : PIM X W tg it (walkM m) := by
  refine PI.weaken (PI.or (pi_list h) (PI.or (pi_tup h) (pi_rawKeys h))) ?_
  rintro σ H Q ⟨ra, HK, F, e, R, hw⟩
  have hw := wp_bind.mp hw
  cases hm : m e with
  | err =>
    rw [hm] at hw
    exact hw.elim
  | exc x e1 =>
    rw [hm] at hw
    exact .inl (tG_exc R hm hw)
  | ok d e1 =>
    rw [hm] at hw
    cases d with
    | lst l =>
      refine .inl (tG_ok R hm fun b F' H' s R' r => ?_)
      cases r with
      | @lst a vs ds h1 h2 => exact ⟨a, rfl, ⟨vs, .of (R'.fh _ _ h1)⟩, hw _ F' H' s R' (itok_list h1 h2)⟩
    | tup l =>
      refine .inr (.inl (tG_ok R hm fun b F' H' s R' r => ?_))
      cases r with
      | @tup a vs ds h1 h2 => exact ⟨a, rfl, ⟨vs, Same.seqT R'.fh h1⟩, hw _ F' H' s R' (itok_tup h1 h2)⟩
    | dct kvs =>
      refine .inr (.inr (tG_ok R hm fun b F' H' s R' r => ?_))
      cases r with
      | @dct a es kvs h1 h2 =>
        obtain ⟨o, h3, h4⟩ := h1
        exact ⟨a, es, o, rfl, R'.fh _ _ h3, h4, hw _ F' H' s R' (itok_plain (by simp [h2.length]) (fun F1 H1 s1 s2 => s2 _ _ (s1 _ _ h3)) fun i v hi hp => h2.keyAt hp)⟩
    | _ => exact hw.elim
theorem itok_range {w : World} {K : PySem.W.Frag} {ra : Addr} {F : Hp} (lo : Int) (n : Nat) : ItOk w K ra F (Itr lo n) ((List.range n).map fun (i : Nat) => D.int (lo + i)) where
  go := fun i F1 H s1 s2 hi => by simpa [Itr] using hi
  stop := fun i F1 H s1 s2 hi => by
    have : i = n := by simpa using hi
    show n ≤ i
    omega
  yld := fun i F1 H x H' s1 s2 hi y => by
    obtain ⟨rfl, rfl⟩ := y
    exact ⟨.int (lo + i), by simp at hi; simp [hi], .inl ⟨rfl, .int _⟩⟩
def okI (i : Int) : Bool := decide (i.natAbs ≤ 1000000000)
theorem okI_of {i : Int} (h : okI i = true) : -(2 ^ 62) ≤ i ∧ i < 2 ^ 62 := by
  unfold okI at h
  simp only [decide_eq_true_eq] at h
  omega
def rngL (lo hi : Int) : List D := (List.range (hi - lo).toNat).map fun (i : Nat) => D.int (lo + i)
def range1D (l : List D) : Option (List D) := match l with
  | [.int j] => if okI j then some (rngL 0 j) else none
  | _ => none
def range2D (l : List D) : Option (List D) := match l with
  | [.int i, .int j] => if okI i && okI j then some (rngL i j) else none
  | _ => none
theorem range1_inv {l ds : List D} (h : range1D l = some ds) : ∃ j, l = [.int j] ∧ okI j = true ∧ ds = rngL 0 j := by
  unfold range1D at h
  split at h
  · rename_i j
    by_cases c : okI j = true
    · rw [if_pos c] at h
      cases h
      exact ⟨j, rfl, c, rfl⟩
    · rw [if_neg c] at h
      cases h
  · cases h
theorem range2_inv {l ds : List D} (h : range2D l = some ds) : ∃ i j, l = [.int i, .int j] ∧ okI i = true ∧ okI j = true ∧ ds = rngL i j := by
  unfold range2D at h
  split at h
  · rename_i i j
    by_cases c : (okI i && okI j) = true
    · rw [if_pos c] at h
      cases h
      obtain ⟨c1, c2⟩ := Bool.and_eq_true_iff.mp c
      exact ⟨i, j, rfl, c1, c2, rfl⟩
    · rw [if_neg c] at h
      cases h
  · cases h
def listM (m : M (List D)) (f : List D → Option (List D)) : M (List D) := bindM m fun l => liftO (f l)
theorem pim_range1 {a : Expr} {ma : M (List D)} (hm : X.mg "range" = none) (ha : PMA X W [a] ma) (hg : Gl X "range" := by rfl) (hs : starEach [a] X.env = [(false, eval a X.env)] := by rfl) : PIM X W tg (.Call (.Name "range" p) [a] [] pos) (listM ma range1D) := by
  refine PI.weaken (pi_range1 hg hm ha hs) ?_
  rintro σ H Q ⟨ra, HK, F, e, R, hw⟩
  have hw := wp_bind.mp hw
  refine ⟨ra, HK, F, e, R, wp_mono hw (fun l e1 q vs F1 H1 s1 R1 r1 => ?_) fun _ _ q => q⟩
  unfold liftO at q
  cases ez : range1D l with
  | none =>
    rw [ez] at q
    exact q.elim
  | some ds =>
    rw [ez] at q
    have r1' : RepA X.w X.K ra F1 vs l := r1
    obtain ⟨j, rfl, c, rfl⟩ := range1_inv ez
    cases r1' with
    | cons x y =>
      cases x
      cases y
      obtain ⟨c1, c2⟩ := okI_of c
      refine ⟨j, rfl, c1, c2, ?_⟩
      have := q (Itr 0 j.toNat) F1 H1 s1 R1
      unfold rngL at this
      rw [Int.sub_zero] at this
      exact this (itok_range 0 j.toNat)
theorem pim_range2 {a b : Expr} {ma : M (List D)} (hm : X.mg "range" = none) (ha : PMA X W [a, b] ma) (hg : Gl X "range" := by rfl) (hs : starEach [a, b] X.env = [(false, eval a X.env), (false, eval b X.env)] := by rfl) (hs2 : starEach [b] X.env = [(false, eval b X.env)] := by rfl) : PIM X W tg (.Call (.Name "range" p) [a, b] [] pos) (listM ma range2D) := by
  refine PI.weaken (pi_range2 hg hm ha hs hs2) ?_
  rintro σ H Q ⟨ra, HK, F, e, R, hw⟩
  have hw := wp_bind.mp hw
  refine ⟨ra, HK, F, e, R, wp_mono hw (fun l e1 q vs F1 H1 s1 R1 r1 => ?_) fun _ _ q => q⟩
  unfold liftO at q
  cases ez : range2D l with
  | none =>
    rw [ez] at q
    exact q.elim
  | some ds =>
    rw [ez] at q
    have r1' : RepA X.w X.K ra F1 vs l := r1
    obtain ⟨i, j, rfl, c, c', rfl⟩ := range2_inv ez
    cases r1' with
    | cons x y =>
      cases y with
      | cons y z =>
        cases x
        cases y
        cases z
        exact ⟨i, j, rfl, ⟨(okI_of c).1, (okI_of c).2, (okI_of c').1, (okI_of c').2⟩, q _ F1 H1 s1 R1 (itok_range i (j - i).toNat)⟩
/-! enumerate -/
def enumL (l : List D) : List D := l.zipIdx.map fun (d, (i : Nat)) => .tup [.int i, d]
def enum1D (l : List D) : Option (List D) := match l with
  | [.lst l] => some (enumL l)
  | [.tup l] => some (enumL l)
  | _ => none
theorem enumL_length (l : List D) : (enumL l).length = l.length := by simp [enumL]
theorem enumL_get {l : List D} {i : Nat} {d : D} (h : l[i]? = some d) : (enumL l)[i]? = some (.tup [.int i, d]) := by
  unfold enumL
  rw [List.getElem?_map, List.getElem?_zipIdx, h]
  simp
theorem itok_enumL {w : World} {K : PySem.W.Frag} {ra : Addr} {F : Hp} {a : Addr} {vs : List V} {ds : List D} (h : F a = some (.lst vs)) (r : RepA w K ra F vs ds) : ItOk w K ra F (Ite K a) (enumL ds) where
  go := fun i F1 H s1 s2 hi => by
    rw [enumL_length] at hi
    obtain ⟨v, hv, _⟩ := r.get (List.getElem?_eq_getElem hi)
    exact ⟨vs, v, .of (s2 _ _ (s1 _ _ h)), hv⟩
  stop := fun i F1 H s1 s2 hi => ⟨vs, .of (s2 _ _ (s1 _ _ h)), by rw [r.length, hi, enumL_length]; exact Nat.le_refl _⟩
  yld := fun i F1 H x H' s1 s2 hi y => by
    obtain ⟨T, x1, rfl, hT, rfl, k⟩ := y
    have hx := k vs (.of (s2 _ _ (s1 _ _ h)))
    obtain ⟨d, hd, rd⟩ := r.get' hx
    exact ⟨_, enumL_get hd, .inr ⟨T, _, hT, rfl, fun F2 s3 e => .tup (.of e) (.cons (.int _) (.cons (rd.mono s3) .nil))⟩⟩
theorem itok_enumT {w : World} {K : PySem.W.Frag} {ra : Addr} {F : Hp} {a : Addr} {vs : List V} {ds : List D} (h : SqT K F a vs) (r : RepA w K ra F vs ds) : ItOk w K ra F (It2 (fun H => SqT K H a vs) vs.length (enumP vs)) (enumL ds) :=
  itok_pairs (by rw [enumL_length, r.length]) (fun F1 H s1 s2 => Same.seqT s2 (Same.seqT s1 h)) fun i v1 v2 hi hp => by
    obtain ⟨rfl, hv⟩ := hp
    obtain ⟨d, hd, rd⟩ := r.get' hv
    exact ⟨_, _, enumL_get hd, .int _, rd⟩
theorem enum_inv {l ds : List D} (h : enum1D l = some ds) : ∃ l', (l = [.lst l'] ∨ l = [.tup l']) ∧ ds = enumL l' := by
  unfold enum1D at h
  split at h
  · cases h
    exact ⟨_, .inl rfl, rfl⟩
  · cases h
    exact ⟨_, .inr rfl, rfl⟩
  · cases h
theorem tGA_ok {w : World} {K : PySem.W.Frag} {ra : Addr} {HK : Kp} {F H : Hp} {e e1 : Env} {σ : St} {d : List D} {m : M (List D)} {Q : List V → Hp → Prop} (R : Rel w K ra HK F e σ H) (hm : m e = .ok d e1) (h : okG TAs w K ra HK F σ Q d e1) : tG TAs w K W m σ H Q :=
  ⟨ra, HK, F, e, R, by rw [hm]; exact h⟩
theorem tGA_exc {w : World} {K : PySem.W.Frag} {ra : Addr} {HK : Kp} {F H : Hp} {e e1 : Env} {σ : St} {x : Exn} {m : M (List D)} {Q : List V → Hp → Prop} (R : Rel w K ra HK F e σ H) (hm : m e = .exc x e1) (h : exW w K ra HK F W x e1) : tG TAs w K W m σ H Q :=
  ⟨ra, HK, F, e, R, by rw [hm]; exact h⟩
theorem pim_enum {a : Expr} {elts : List Expr} {kk : Nat} {tpos : Pos} {ma : M (List D)} (hm : X.mg "enumerate" = none) (ha : PMA X W [a] ma) (hg : Gl X "enumerate" := by rfl) (hs : starEach [a] X.env = [(false, eval a X.env)] := by rfl) : PIM X W (.Tuple elts kk tpos) (.Call (.Name "enumerate" p) [a] [] pos) (listM ma enum1D) := by
  refine PI.weaken (PI.or (pi_enum hg hm ha hs) (pi_enumT hg hm ha hs)) ?_
  rintro σ H Q ⟨ra, HK, F, e, R, hw⟩
  have hw := wp_bind.mp hw
  cases hm : ma e with
  | err =>
    rw [hm] at hw
    exact hw.elim
  | exc x e1 =>
    rw [hm] at hw
    exact .inl (tGA_exc R hm hw)
  | ok l e1 =>
    rw [hm] at hw
    unfold liftO at hw
    simp only [Res.wp] at hw
    cases ez : enum1D l with
    | none =>
      rw [ez] at hw
      exact hw.elim
    | some ds =>
      rw [ez] at hw
      obtain ⟨l', rfl | rfl, rfl⟩ := enum_inv ez
      · refine .inl (tGA_ok R hm fun b F' H' s R' r => ?_)
        have r' : RepA X.w X.K ra F' b [.lst l'] := r
        cases r' with
        | cons x y =>
          cases y
          cases x with
          | @lst a vs ds h1 h2 => exact ⟨a, vs, rfl, .of (R'.fh _ _ h1), hw _ F' H' s R' (itok_enumL h1 h2)⟩
      · refine .inr (tGA_ok R hm fun b F' H' s R' r => ?_)
        have r' : RepA X.w X.K ra F' b [.tup l'] := r
        cases r' with
        | cons x y =>
          cases y
          cases x with
          | @tup a vs ds h1 h2 => exact ⟨a, vs, rfl, Same.seqT R'.fh h1, hw _ F' H' s R' (itok_enumT h1 h2)⟩
/-! zip of two lists -/
def zipL (l l' : List D) : List D := (l.zip l').map fun (a, b) => .tup [a, b]
def zipD (l : List D) : Option (List D) := match l with
  | [.lst l, .lst l'] => some (zipL l l')
  | _ => none
/-! d.values(), d.items() -/
def itmsL (kvs : List (D × D)) : List D := kvs.map fun (k, v) => .tup [k, v]
def itmsD (d : D) : Option (List D) := match d with
  | .dct kvs => some (itmsL kvs)
  | _ => none
def walkD (m : M D) (f : D → Option (List D)) : M (List D) := bindM m fun d => liftO (f d)
variable {apos cpos : Pos}
theorem pim_itms {elts : List Expr} {kk : Nat} {tpos : Pos} (h : PM X W it m) (hbase : attributeBase it "items" X.env (eval it X.env) = eval it X.env := by rfl) (hline : (apos.endLine == cpos.line) = true := by rfl) : PIM X W (.Tuple elts kk tpos) (.Call (.Attribute it "items" apos) [] [] cpos) (walkD m itmsD) := by
  refine PI.weaken (pi_rawItems h hbase hline) ?_
  rintro σ H Q ⟨ra, HK, F, e, R, hw⟩
  refine ⟨ra, HK, F, e, R, wp_mono (wp_bind.mp hw) (fun d e1 q v F1 H1 s1 R1 r1 => ?_) fun _ _ q => q⟩
  cases d with
  | dct kvs =>
    have r1' : Rep X.w X.K ra F1 v (.dct kvs) := r1
    cases r1' with
    | @dct a es kvs h1 h2 =>
      obtain ⟨o, h3, h4⟩ := h1
      refine ⟨a, es, o, rfl, R1.fh _ _ h3, h4, q _ F1 H1 s1 R1 (itok_pairs (by simp [itmsL, h2.length]) (fun F1 H1 s1 s2 => s2 _ _ (s1 _ _ h3)) fun i v1 v2 hi hp => ?_)⟩
      obtain ⟨en, he, rfl, rfl⟩ := hp
      obtain ⟨p, hp, r2, r3⟩ := h2.getE he
      exact ⟨p.1, p.2, by simp [itmsL, hp], r2, r3⟩
  | _ => exact q.elim
end
end Mi

set_option Elab.async false
set_option linter.all false
set_option maxRecDepth 100000
set_option maxHeartbeats 4000000
/-! Mi, part O: list comprehensions. -/
namespace Mi
open PySem PySem.Spec PyProof.Rows L2
def wipeS (sl : List Slot) : List Nat → List Slot
  | [] => sl
  | v :: vs => (wipeS sl vs).set v .no
def restS (sl' sl : List Slot) : List Nat → List Slot
  | [] => sl'
  | v :: vs => (restS sl' sl vs).set v ((sl[v]?).getD .no)
theorem restS_length (sl' sl : List Slot) : ∀ vs, (restS sl' sl vs).length = sl'.length
  | [] => rfl
  | v :: vs => by unfold restS; rw [List.length_set, restS_length sl' sl vs]
theorem restS_in {sl' sl : List Slot} {j : Nat} : ∀ {vs : List Nat}, j ∈ vs → j < sl'.length → (restS sl' sl vs)[j]? = some ((sl[j]?).getD .no)
  | v :: vs, h, l => by
    unfold restS
    by_cases e : v = j
    · subst e
      rw [List.getElem?_set_self (by rw [restS_length]; exact l)]
    · rw [List.getElem?_set_ne e]
      exact restS_in (by
        rcases List.mem_cons.mp h with z | z
        · exact absurd z.symm e
        · exact z) l
theorem restS_out {sl' sl : List Slot} {j : Nat} : ∀ {vs : List Nat}, j ∉ vs → (restS sl' sl vs)[j]? = sl'[j]?
  | [], _ => rfl
  | v :: vs, h => by
    unfold restS
    rw [List.mem_cons, not_or] at h
    rw [List.getElem?_set_ne fun z => h.1 z.symm]
    exact restS_out h.2
def wipeE (e : Env) (vs : List Nat) : Env := { e with sl := wipeS e.sl vs }
def restE (e' e : Env) (vs : List Nat) : Env := { e' with sl := restS e'.sl e.sl vs }
def Slot.isOwn : Slot → Bool
  | .own _ => true
  | .box _ => true
  | _ => false
theorem Slot.own_c (s : Slot) : s.isOwn = s.isC := by cases s <;> rfl
def noOwn (sl : List Slot) (vs : List Nat) : Bool := vs.all fun v => !((sl[v]?).getD .no).isOwn
section
variable {w : World} {K : PySem.W.Frag} {ra : Addr} {HK : Kp} {F F0 H H0 : Hp} {e e' : Env} {σ : St}
theorem Rel.wipe (R : Rel w K ra HK F e σ H) : ∀ vs : List Nat, Rel w K ra HK F (wipeE e vs) (L2.wipe σ vs) H
  | [] => R
  | v :: vs => (Rel.wipe R vs).setNo v none
theorem Rel.rest (R' : Rel w K ra HK F e' (L2.wipe σ vs) H) (R : Rel w K ra HK F0 e σ H0) (s : Same F0 F) (hn : noOwn e.sl vs = true) : Rel w K ra HK F (restE e' e vs) σ H := by
  have hlen : e'.sl.length = σ.length := by rw [R'.len, wipe_length]
  have hno : ∀ j ∈ vs, ∀ s, s.isC = true → e.sl[j]? ≠ some s := fun j hj s c z => by
    have := List.all_eq_true.mp hn j hj
    rw [z, Option.getD_some, Slot.own_c, c] at this
    cases this
  have own_out : ∀ {j : Nat} {o : Slot}, (restS e'.sl e.sl vs)[j]? = some o → o.isC = true → j ∉ vs ∧ e'.sl[j]? = some o := fun {j o} h oc => by
    by_cases c : j ∈ vs
    · exfalso
      have l : j < e'.sl.length := by
        have := (List.getElem?_eq_some_iff.mp h).1
        rw [restS_length] at this
        exact this
      rw [restS_in c l] at h
      cases q : e.sl[j]? with
      | none =>
        rw [q] at h
        cases h
        cases oc
      | some s =>
        rw [q] at h
        simp only [Option.getD_some, Option.some.injEq] at h
        subst h
        exact hno j c _ oc q
    · rw [restS_out c] at h
      exact ⟨c, h⟩
  refine ⟨R'.fh, R'.kh, by show (restS e'.sl e.sl vs).length = _; rw [restS_length]; exact hlen, fun j t hj => ?_, fun i j s1 s2 a a' p hij h1 h2 k1 k2 h3 h4 f => ?_, R'.row, R'.fra, R'.kra, R'.pn⟩
  · have hj' : (restS e'.sl e.sl vs)[j]? = some t := hj
    by_cases c : j ∈ vs
    · have l : j < e'.sl.length := by
        have := (List.getElem?_eq_some_iff.mp hj').1
        rw [restS_length] at this
        exact this
      rw [restS_in c l] at hj'
      cases q : e.sl[j]? with
      | none =>
        rw [q] at hj'
        cases hj'
        trivial
      | some u =>
        rw [q] at hj'
        simp only [Option.getD_some, Option.some.injEq] at hj'
        subst hj'
        have := R.sl j u q
        exact this.mono s fun p hc _ => absurd q (hno j c _ hc)
    · rw [restS_out c] at hj'
      have := R'.sl j t hj'
      rw [wipe_out c] at this
      exact this
  · obtain ⟨c1, q1⟩ := own_out h1 k1
    obtain ⟨c2, q2⟩ := own_out h2 k2
    exact R'.sep i j s1 s2 a a' p hij q1 q2 k1 k2 (by rw [wipe_out c1]; exact h3) (by rw [wipe_out c2]; exact h4) f
/-- a list under construction -/
def pinD (HK : Kp) (D : Addr) (u : HO) : Kp := ⟨upd HK.h D u, fun a => HK.pin a ∨ a = D, HK.me⟩
theorem Rel.pinNew (R : Rel w K ra HK F e σ H) {D : Addr} (hD : H D = none) (u : HO) : Rel w K ra (pinD HK D u) F e σ (upd H D u) := by
  have R2 := R.grow hD u
  have fD : F D = none := R.fh.free hD
  refine ⟨R2.fh, fun b z q => ?_, R2.len, fun i s h => ?_, R2.sep, R2.row, R2.fra, ?_, fun b hb => ?_⟩
  · have q' : upd HK.h D u b = some z := q
    by_cases hb : b = D
    · subst hb
      rw [upd_same] at q' ⊢
      exact q'
    · rw [upd_ne hb] at q' ⊢
      exact R.kh b z q'
  · have := R2.sl i s h
    cases s with
    | no => trivial
    | pin => exact this
    | val d => exact this
    | own o =>
      obtain ⟨a, e1, r, fa, ka, na⟩ := this
      exact ⟨a, e1, r, fa, by show upd HK.h D u a = none; rw [upd_ne fun z => R.own_some h e1 (by rw [z]; exact hD)]; exact ka, na⟩
    | box l =>
      obtain ⟨a, e1, es, at_, rb, nd, f⟩ := this
      refine ⟨a, e1, es, at_, rb, nd, fun p hp => ?_⟩
      obtain ⟨f1, f2, f3, f4⟩ := f p hp
      refine ⟨f1, ?_, f3, f4⟩
      show upd HK.h D u p = none
      by_cases z : p = D
      · subst z
        have na : a ≠ p := fun z => by
          have := (R.foot h rfl e1 (.inl rfl)).2.2.2
          rw [z] at this
          exact this hD
        rcases hp with rfl | hp
        · exact absurd rfl na
        · exact absurd hD (R.foot h rfl e1 (.inr ⟨rfl, (Inn.congr (upd_ne na)).mp hp⟩)).2.2.2
      · rw [upd_ne z]
        exact f2
  · show upd HK.h D u ra = none
    rw [upd_ne fun z => R.ra_some (by rw [z]; exact hD)]
    exact R.kra
  · rcases hb with hb | rfl
    · refine ⟨?_, (R.pn b hb).2⟩
      show upd HK.h D u b ≠ none
      by_cases c : b = D
      · subst c
        rw [upd_same]
        exact fun z => by cases z
      · rw [upd_ne c]
        exact (R.pn b hb).1
    · exact ⟨by show upd HK.h b u b ≠ none; rw [upd_same]; exact (fun z => by cases z), fD⟩
theorem Rel.repin {D : Addr} {u u' : HO} (R : Rel w K ra (pinD HK D u) F e σ H) : Rel w K ra (pinD HK D u') F e σ (upd H D u') := by
  have fD : F D = none := (R.pn D (.inr rfl)).2
  have nra : ra ≠ D := fun z => by
    have := R.kra
    have e : upd HK.h D u ra = none := this
    rw [z, upd_same] at e
    cases e
  have kne : ∀ b, (pinD HK D u).h b = none → b ≠ D := fun b hb z => by
    have e : upd HK.h D u b = none := hb
    rw [z, upd_same] at e
    cases e
  refine ⟨fun b z q => ?_, fun b z q => ?_, R.len, fun i s h => ?_, R.sep.heap fun i s a h c hs => upd_ne (kne a (R.foot h c hs (.inl rfl)).2.1), R.row.mono (Same.refl F) (upd_ne nra), R.fra, ?_, fun b hb => ?_⟩
  · rw [upd_ne (ne_of_none q fD)]
    exact R.fh b z q
  · have q' : upd HK.h D u' b = some z := q
    by_cases hb : b = D
    · subst hb
      rw [upd_same] at q' ⊢
      exact q'
    · rw [upd_ne hb] at q' ⊢
      exact R.kh b z (by show upd HK.h D u b = some z; rw [upd_ne hb]; exact q')
  · cases s with
    | no => trivial
    | pin => exact R.sl i _ h
    | val d => exact R.sl i _ h
    | box l =>
      obtain ⟨a, e1, es, at_, rb, nd, f⟩ := R.sl i _ h
      have na : a ≠ D := kne a (f a (.inl rfl)).2.1
      refine ⟨a, e1, es, ?_, rb.mono (Same.refl F) fun e he p hp => upd_ne (kne p (f p (.inr (at_.inn he hp))).2.1), nd, fun p hp => ?_⟩
      · obtain ⟨o, h1, h2⟩ := at_
        exact ⟨o, (upd_ne na).trans h1, h2⟩
      · obtain ⟨f1, f2, f3, f4⟩ := f p (hp.imp id (Inn.congr (upd_ne na)).mp)
        have ne := kne p f2
        refine ⟨f1, ?_, f3, by rw [upd_ne ne]; exact f4⟩
        show upd HK.h D u' p = none
        have e : upd HK.h D u p = none := f2
        rw [upd_ne ne] at e ⊢
        exact e
    | own o =>
      obtain ⟨a, e1, r, fa, ka, na⟩ := R.sl i _ h
      have hne : a ≠ D := fun z => by
        have e : upd HK.h D u a = none := ka
        rw [z, upd_same] at e
        cases e
      refine ⟨a, e1, ?_, fa, by show upd HK.h D u' a = none; rw [upd_ne hne]; exact (by have e : upd HK.h D u a = none := ka; rwa [upd_ne hne] at e), na⟩
      cases o with
      | lst ds =>
        obtain ⟨vs, h1, h2⟩ := r
        exact ⟨vs, (upd_ne hne).trans h1, h2⟩
      | dct kvs =>
        obtain ⟨es, ⟨o, h1, h3⟩, h2⟩ := r
        exact ⟨es, ⟨o, (upd_ne hne).trans h1, h3⟩, h2⟩
  · show upd HK.h D u' ra = none
    rw [upd_ne nra]
    have e : upd HK.h D u ra = none := R.kra
    rwa [upd_ne nra] at e
  · refine ⟨?_, (R.pn b hb).2⟩
    show upd HK.h D u' b ≠ none
    by_cases c : b = D
    · subst c
      rw [upd_same]
      exact fun z => by cases z
    · rw [upd_ne c]
      have := (R.pn b hb).1
      have e : upd HK.h D u b ≠ none := this
      rwa [upd_ne c] at e
theorem Rel.unpin {D : Addr} {u : HO} (R : Rel w K ra (pinD HK D u) F e σ H) (hk : HK.h D = none) (hp : ∀ a, HK.pin a → HK.h a ≠ none) : Rel w K ra HK F e σ H ∧ F D = none ∧ D ≠ ra ∧ H D = some u ∧ NotIn e σ H D := by
  have nra : D ≠ ra := fun z => by
    have e : upd HK.h D u ra = none := R.kra
    rw [← z, upd_same] at e
    cases e
  have kne : ∀ b, (pinD HK D u).h b = none → b ≠ D := fun b hb z => by
    have e : upd HK.h D u b = none := hb
    rw [z, upd_same] at e
    cases e
  refine ⟨⟨R.fh, fun b z q => ?_, R.len, fun i s h => ?_, R.sep, R.row, R.fra, ?_, fun b hb => ⟨hp b hb, (R.pn b (.inl hb)).2⟩⟩, (R.pn D (.inr rfl)).2, nra, R.kh D u (by show upd HK.h D u D = some u; exact upd_same), fun i s a h c hs f => kne D (R.foot h c hs f).2.1 rfl⟩
  · exact R.kh b z (by show upd HK.h D u b = some z; rw [upd_ne (ne_of_none q hk)]; exact q)
  · cases s with
    | no => trivial
    | pin => exact R.sl i _ h
    | val d => exact R.sl i _ h
    | own o =>
      obtain ⟨a, e1, r, fa, ka, na⟩ := R.sl i _ h
      have hne : a ≠ D := fun z => by
        have e : upd HK.h D u a = none := ka
        rw [z, upd_same] at e
        cases e
      exact ⟨a, e1, r, fa, by have e : upd HK.h D u a = none := ka; rwa [upd_ne hne] at e, na⟩
    | box l =>
      obtain ⟨a, e1, es, at_, rb, nd, f⟩ := R.sl i _ h
      refine ⟨a, e1, es, at_, rb, nd, fun p hp => ?_⟩
      obtain ⟨f1, f2, f3, f4⟩ := f p hp
      have e : upd HK.h D u p = none := f2
      rw [upd_ne (kne p f2)] at e
      exact ⟨f1, e, f3, f4⟩
  · have e : upd HK.h D u ra = none := R.kra
    rwa [upd_ne nra.symm] at e
end
theorem notIn_rest {e e' : Env} {σ : St} {H : Hp} {D : Addr} {vs : List Nat} (nd : NotIn e' (L2.wipe σ vs) H D) (hn : noOwn e.sl vs = true) : NotIn (restE e' e vs) σ H D := fun i s a h c hs f => by
  have h' : (restS e'.sl e.sl vs)[i]? = some s := h
  by_cases q : i ∈ vs
  · have l : i < e'.sl.length := by
      have := (List.getElem?_eq_some_iff.mp h').1
      rw [restS_length] at this
      exact this
    rw [restS_in q l] at h'
    have := List.all_eq_true.mp hn i q
    simp only [Option.some.injEq] at h'
    rw [h', Slot.own_c, c] at this
    cases this
  · rw [restS_out q] at h'
    exact nd i s a h' c (by rw [L2.wipe_out q]; exact hs) f
/-! ### the mirror -/
def lcGo (g : D → M Unit) (t : M Bool) (el : M D) (vs : List Nat) : List D → List D → M (List D)
  | [], acc => pureM acc
  | d :: ds, acc => bindM (g d) fun _ => bindM t fun c => if c = true then bindM el fun y => bindM (small (acc ++ [y])) fun _ => fun e => lcGo g t el vs ds (acc ++ [y]) (wipeE e vs) else fun e => lcGo g t el vs ds acc (wipeE e vs)
def lcRun (g : D → M Unit) (t : M Bool) (el : M D) (vs : List Nat) (ds : List D) : M OD := fun e => if noOwn e.sl vs = true then (match lcGo g t el vs ds [] (wipeE e vs) with
  | .ok l e' => .ok (.lst l) (restE e' e vs)
  | _ => .err) else .err
def lcM (mi : M (List D)) (g : D → M Unit) (t : M Bool) (el : M D) (vs : List Nat) : M OD := bindM mi (lcRun g t el vs)
/-- nothing is raised here -/
abbrev WN : WX := fun _ _ _ _ => False
def PMTs (X : Cx) (W : WX) (ifs : List Expr) (m : M Bool) : Prop := PTs X ifs (tG TB X.w X.K W m)
theorem PTs.weaken {X : Cx} {ifs : List Expr} {t t' : TT} (h : PTs X ifs t) (k : ∀ σ H Q, t' σ H Q → t σ H Q) : PTs X ifs t' := ⟨fun pins s σ H Q I hw => h.run pins s σ H Q I (k σ H Q hw)⟩
theorem pmts_nil {X : Cx} {W : WX} : PMTs X W [] (pureM true) := PTs.weaken pts_nil fun σ H Q h => by
  obtain ⟨ra, HK, F, e, R, h⟩ := h
  exact h true F H (Same.refl F) R rfl
theorem pmts_one {X : Cx} {W : WX} {c : Expr} {m : M Bool} (h : PMT X W c m) : PMTs X W [c] m := pts_one h
theorem lc_read {w : World} {K : PySem.W.Frag} {W : WX} {mi : M (List D)} {g : D → M Unit} {t : M Bool} {el : M D} {is vs : List Nat} (hsub : ∀ i ∈ is, i ∈ vs) {σ : St} {H : Hp} {Q : VK} (h : tG TO w K W (lcM mi g t el vs) σ H Q) :
    tLc (tI w K W mi) (tT w K is g) (tG TB w K WN t) (tG TV w K WN el) vs σ H Q := by
  obtain ⟨ra, HK, F, e, R, h⟩ := h
  unfold lcM at h
  refine ⟨ra, HK, F, e, R, wp_mono (wp_bind.mp h) (fun ds e1 q J F1 H1 s1 R1 ok => ?_) fun _ _ q => q⟩
  intro D hD
  unfold lcRun at q
  by_cases hn : noOwn e1.sl vs = true
  · simp only [if_pos hn] at q
    cases eg : lcGo g t el vs ds [] (wipeE e1 vs) with
    | err =>
      rw [eg] at q
      exact q.elim
    | exc x e' =>
      rw [eg] at q
      exact q.elim
    | ok l e' =>
      rw [eg] at q
      have kD : HK.h D = none := R1.kh.free hD
      have hpn : ∀ a, HK.pin a → HK.h a ≠ none := fun a ha => (R1.pn a ha).1
      refine ⟨fun i m H => m = ds.length - i ∧ i ≤ ds.length ∧ ∃ F2 e2 acc dacc, Same F1 F2 ∧ Rel w K ra (pinD HK D (.lst acc)) F2 e2 (wipe σ vs) H ∧ RepA w K ra F2 acc dacc ∧ dacc.length ≤ sizeLine ∧ lcGo g t el vs (ds.drop i) dacc e2 = .ok l e',
        ⟨ds.length, rfl, Nat.zero_le _, F1, _, [], [], Same.refl F1, (R1.wipe vs).pinNew hD _, .nil, Nat.zero_le _, eg⟩, ?_⟩
      rintro i m H2 ⟨rfl, hil, F2, e2, acc, dacc, s2, R2, ra2, hz2, h2⟩
      by_cases hlt : i < ds.length
      · refine .inr ⟨ok.go i F2 H2 s2 R2.fh hlt, fun H' => ∃ F2 e2 acc dacc, Same F1 F2 ∧ Rel w K ra (pinD HK D (.lst acc)) F2 e2 (wipe σ vs) H' ∧ RepA w K ra F2 acc dacc ∧ dacc.length ≤ sizeLine ∧ lcGo g t el vs (ds.drop (i + 1)) dacc e2 = .ok l e',
          fun H' z => ⟨ds.length - (i + 1), by omega, rfl, hlt, z⟩, fun x H3 y => ?_⟩
        obtain ⟨d, F3, hd, s3, R3, r3⟩ := R2.turn ok s2 hlt y
        rw [drop_cons hd] at h2
        unfold lcGo bindM at h2
        refine ⟨ra, _, F3, e2, d, R3, r3, ?_⟩
        cases eg2 : g d e2 with
        | err =>
          rw [eg2] at h2
          cases h2
        | exc x e3 =>
          rw [eg2] at h2
          cases h2
        | ok u e3 =>
          rw [eg2] at h2
          simp only at h2
          intro σ4 F4 H4 b4 s4 R4
          have hw4 : wipe σ4 vs = wipe σ vs := by
            rw [b4.wiped hsub]
            apply List.ext_getElem?
            intro j
            by_cases c : j ∈ vs
            · have key : ∀ (τ : St) (us : List Nat), j ∈ us → (wipe τ us)[j]? = if j < τ.length then some none else none := by
                intro τ us
                induction us with
                | nil => intro h; cases h
                | cons u us ih =>
                  intro hj
                  unfold L2.wipe
                  by_cases e : u = j
                  · subst e
                    by_cases l : u < τ.length
                    · rw [if_pos l, List.getElem?_set_self (by rw [wipe_length]; exact l)]
                    · rw [if_neg l, List.getElem?_eq_none (by rw [List.length_set, wipe_length]; omega)]
                  · rw [List.getElem?_set_ne e]
                    exact ih (by
                      rcases List.mem_cons.mp hj with z | z
                      · exact absurd z.symm e
                      · exact z)
              rw [key _ _ c, key _ _ c, wipe_length]
            · rw [wipe_out c]
          refine ⟨hw4, ra, _, F4, e3, R4, ?_⟩
          have sf4 := (s2.trans s3).trans s4
          cases et : t e3 with
          | err =>
            rw [et] at h2
            cases h2
          | exc x e5 =>
            rw [et] at h2
            cases h2
          | ok c e5 =>
            rw [et] at h2
            simp only at h2
            intro b F5 H5 s5 R5 hb
            have hb' : b = c := hb
            subst hb'
            cases b with
            | false =>
              simp only [Bool.false_eq_true, if_false] at h2 ⊢
              have R6 := R5.wipe vs
              rw [hw4] at R6
              exact ⟨F5, _, acc, dacc, sf4.trans s5, R6, ra2.mono ((s3.trans s4).trans s5), hz2, h2⟩
            | true =>
              simp only [if_true] at h2 ⊢
              refine ⟨ra, _, F5, e5, R5, ?_⟩
              try unfold bindM at h2
              cases ee : el e5 with
              | err =>
                rw [ee] at h2
                cases h2
              | exc x e6 =>
                rw [ee] at h2
                cases h2
              | ok y e6 =>
                rw [ee] at h2
                simp only at h2
                intro yv F6 H6 s6 R6 ry
                unfold small at h2
                by_cases hz : (dacc ++ [y]).length ≤ 1000000
                · simp only [if_pos hz] at h2
                  have st : Same F2 F6 := ((s3.trans s4).trans s5).trans s6
                  have rA : RepA w K ra F6 acc dacc := ra2.mono st
                  have hD6 : H6 D = some (.lst acc) := R6.kh D _ (by show upd HK.h D _ D = _; exact upd_same)
                  have l1 : acc.length < sizeLine := by
                    rw [rA.length]
                    rw [List.length_append] at hz
                    have : (1000000 : Nat) ≤ sizeLine := by decide
                    simp at hz
                    omega
                  have R7 := (R6.repin (u' := .lst (acc ++ [yv]))).wipe vs
                  rw [hw4] at R7
                  refine ⟨acc, hD6, l1, F6, _, acc ++ [yv], dacc ++ [y], (sf4.trans s5).trans s6, R7, rA.append (.cons ry .nil), Nat.le_trans hz (by decide), h2⟩
                · simp only [if_neg hz] at h2
                  cases h2
      · have ei : i = ds.length := by omega
        subst ei
        rw [List.drop_length] at h2
        unfold lcGo pureM at h2
        cases h2
        obtain ⟨R3, fD, nD, hD2, nd⟩ := R2.unpin kD hpn
        refine .inl ⟨ok.stop _ F2 H2 s2 R2.fh rfl, ?_⟩
        have R4 := R3.rest R1 s2 hn
        refine q _ F2 H2 (s1.trans s2) R4 ⟨D, rfl, ⟨acc, hD2, ra2⟩, fD, kD, nD, notIn_rest nd hn⟩
  · simp only [if_neg hn] at q
    exact q.elim
section
variable {X : Cx} {W : WX} {elt tg iter : Expr} {ifs : List Expr} {scope : Scope} {own : List (Str × Nat)} {pos : Pos} {mi : M (List D)} {g : D → M Unit} {t : M Bool} {el : M D} {is : List Nat}
theorem pmo_lc (hi : PIM X W tg iter mi)
    (hg : ∀ (s : Shared) (H : Hp) (C : Addr) (cl : List (Str × Addr)) (fp : List Addr), PGM (X.blk s H scope (compEnvC scope cl C X.env) fp) tg is g) (ht : ∀ (s : Shared) (H : Hp) (C : Addr) (cl : List (Str × Addr)) (fp : List Addr), PMTs (X.blk s H scope (compEnvC scope cl C X.env) fp) WN ifs t)
    (he : ∀ (s : Shared) (H : Hp) (C : Addr) (cl : List (Str × Addr)) (fp : List Addr), PM (X.blk s H scope (compEnvC scope cl C X.env) fp) WN elt el) (hc : X.calm = true) (hN : X.N.Nodup) (own : List (Str × Nat)) (ok : blkC X.N X.env.scope scope own = true := by rfl) (hsub : ∀ i ∈ is, i ∈ own.map (·.2) := by decide) (hs : ∀ x, foldedSetIterable iter X.env x = pure x := by intro _; rfl) :
    PMO X W (.ListComp elt [⟨tg, iter, ifs, 0⟩] scope pos) (lcM mi g t el (own.map (·.2))) :=
  PE.weaken (pe_lc (g := tT X.w X.K is g) (tt := tG TB X.w X.K WN t) (te := tG TV X.w X.K WN el) hc hN hi (blkOk_by ok) hg ht he hs) fun σ H Q h => lc_read hsub h
theorem psm_setLc (i : Nat) {y : Str} {py spos : Pos} (hi : PIM X W tg iter mi)
    (hg : ∀ (s : Shared) (H : Hp) (C : Addr) (cl : List (Str × Addr)) (fp : List Addr), PGM (X.blk s H scope (compEnvC scope cl C X.env) fp) tg is g) (ht : ∀ (s : Shared) (H : Hp) (C : Addr) (cl : List (Str × Addr)) (fp : List Addr), PMTs (X.blk s H scope (compEnvC scope cl C X.env) fp) WN ifs t)
    (he : ∀ (s : Shared) (H : Hp) (C : Addr) (cl : List (Str × Addr)) (fp : List Addr), PM (X.blk s H scope (compEnvC scope cl C X.env) fp) WN elt el) (hc : X.calm = true) (hN : X.N.Nodup) (own : List (Str × Nat)) (ok : blkC X.N X.env.scope scope own = true := by rfl) (hsub : ∀ i ∈ is, i ∈ own.map (·.2) := by decide) (hy : X.N[i]? = some y := by rfl) (hyl : X.env.scope.names.lookup y = some .local := by rfl)
    (hsw : swapsWith (.ListComp elt [⟨tg, iter, ifs, 0⟩] scope pos) (some (.Name y py)) spos.line X.env = pure true := by rfl) (hs : ∀ x, foldedSetIterable iter X.env x = pure x := by intro _; rfl) :
    PSM X W (.Assign [.Name y py] (.ListComp elt [⟨tg, iter, ifs, 0⟩] scope pos) spos) (asgO i (lcM mi g t el (own.map (·.2)))) := by
  refine PS.weaken (ps_setLc (g := tT X.w X.K is g) (tt := tG TB X.w X.K WN t) (te := tG TV X.w X.K WN el) hc hN hy hyl hsw hi (blkOk_by ok) hg ht he hs) ?_
  rintro D' σ H ⟨ra, HK, F, e, R, h⟩
  unfold asgO at h
  refine lc_read hsub (stepS R h fun F1 e1 o v H1 s1 R1 r1 q1 => ?_)
  obtain ⟨h1, q2⟩ := wp_setM q1
  exact q2 _ F1 H1 (Same.refl F1) (R1.setOwn h1 r1)
end
end Mi

set_option Elab.async false
set_option linter.all false
set_option maxRecDepth 100000
set_option maxHeartbeats 4000000
/-! Mi, part P: lists of one's own changed; calls; raise. -/
namespace Mi
open PySem PySem.Spec PyProof.Rows L2
section
variable {w : World} {K : PySem.W.Frag} {ra : Addr} {HK : Kp} {F F' H H' : Hp} {e : Env} {σ : St}
/-- a container of one's own is changed -/
theorem Rel.store (R : Rel w K ra HK F e σ H) {i : Nat} {o o' : OD} {a : Addr} {u : HO} (h : e.sl[i]? = some (.own o)) (hs : σ[i]? = some (some (.ref a))) (r : RepO w K ra F (upd H a u) a o') : Rel w K ra HK F { e with sl := e.sl.set i (.own o') } σ (upd H a u) := by
  obtain ⟨a', e1, r0, fa, ka, na⟩ := R.sl i _ h
  rw [hs] at e1
  cases e1
  have hi : i < e.sl.length := (List.getElem?_eq_some_iff.mp h).1
  have hi' : i < σ.length := by rw [← R.len]; exact hi
  have other : ∀ (j : Nat) (s : Slot) (b p : Addr), i ≠ j → e.sl[j]? = some s → s.isC = true → σ[j]? = some (some (.ref b)) → Foot H s b p → p ≠ a := fun j s b p c hj sc eq f z => R.sep i j _ s a b p c h hj rfl sc hs eq (.inl z) f
  have sep2 : Sep { e with sl := e.sl.set i (.own o') } (σ.set i (some (.ref a))) (upd H a u) := by
    have S0 : Sep { e with sl := e.sl.set i (.own o') } (σ.set i (some (.ref a))) H := R.sep.on hi' fun j s' a' p hij h2 c2 hs2 f f2 => by
      rcases f with rfl | ⟨z, _⟩
      · exact other j s' a' _ hij h2 c2 hs2 f2 rfl
      · cases z
    intro j k s1 s2 b b' p hjk h1 h2 c1 c2 h3 h4 f f2
    rw [set_id hs] at h3 h4
    have back : ∀ {m : Nat} {t : Slot} {b : Addr}, (e.sl.set i (.own o'))[m]? = some t → t.isC = true → σ[m]? = some (some (.ref b)) → Foot (upd H a u) t b p → Foot H t b p := fun {m t b} hm tc hb f => by
      by_cases c : i = m
      · subst c
        rw [List.getElem?_set_self hi] at hm
        cases hm
        rcases f with rfl | ⟨z, _⟩
        · exact .inl rfl
        · cases z
      · rw [List.getElem?_set_ne c] at hm
        exact (Foot.congr (upd_ne (other m t b b c hm tc hb (.inl rfl)))).mp f
    exact S0 j k s1 s2 b b' p hjk h1 h2 c1 c2 (by rw [set_id hs]; exact h3) (by rw [set_id hs]; exact h4) (back h1 c1 h3 f) (back h2 c2 h4 f2)
  rw [set_id hs] at sep2
  refine ⟨fun b z q => ?_, fun b z q => ?_, by rw [List.length_set]; exact R.len, fun j s hj => ?_, sep2, R.row.mono (Same.refl F) (upd_ne (Ne.symm na)), R.fra, R.kra, R.pn⟩
  · rw [upd_ne (ne_of_none q fa)]
    exact R.fh b z q
  · rw [upd_ne (ne_of_none q ka)]
    exact R.kh b z q
  · by_cases c : i = j
    · subst c
      rw [List.getElem?_set_self hi] at hj
      cases hj
      exact ⟨a, hs, r, fa, ka, na⟩
    · rw [List.getElem?_set_ne c] at hj
      exact (R.sl j s hj).mono (Same.refl F) fun q hc eq p hf => ⟨upd_ne (other j s q p c hj hc eq hf), rfl⟩
end
/-! ### xs.append(e), xs.extend(e), xs.pop() -/
/-- the name is a list of one's own -/
def ownL (i : Nat) : M (List D) := fun e => match e.sl[i]? with
  | some (.own (.lst l)) => .ok l e
  | _ => .err
theorem wp_ownL {β : Type} {i : Nat} {g : List D → M β} {e : Env} {A : β → Env → Prop} {B : Exn → Env → Prop} (h : (bindM (ownL i) g e).wp A B) : ∃ l, e.sl[i]? = some (.own (.lst l)) ∧ (g l e).wp A B := by
  unfold bindM ownL at h
  cases q : e.sl[i]? with
  | none =>
    simp only [q] at h
    exact h.elim
  | some s =>
    cases s with
    | own o =>
      cases o with
      | lst l =>
        simp only [q] at h
        exact ⟨l, rfl, h⟩
      | dct l =>
        simp only [q] at h
        exact h.elim
    | _ =>
      simp only [q] at h
      exact h.elim
def appM (i : Nat) (m : M D) : M Fl := bindM (ownL i) fun _ => bindM m fun d => bindM (ownL i) fun l => bindM (small (l ++ [d])) fun _ => bindM (setM i (.own (.lst (l ++ [d])))) fun _ => pureM .nx
def extM (i : Nat) (m : M D) : M Fl := bindM (ownL i) fun _ => bindM m fun d => match d with
  | .lst k => bindM (ownL i) fun l => bindM (small (l ++ k)) fun _ => bindM (setM i (.own (.lst (l ++ k)))) fun _ => pureM .nx
  | _ => errM
section
variable {X : Cx} {W : WX} {e : Expr} {m : M D} {pos apos cpos p : Pos} {x : Str}
theorem psm_append (i : Nat) (hm : PM X W e m) (hN : X.N[i]? = some x := by rfl) (hv : Vis X.env.scope x := by first | exact Or.inl rfl | exact Or.inr (Or.inl rfl) | exact Or.inr (Or.inr rfl)) (hd : (x == ("__debug__" : Str)) = false := by decide) (hcd : (x == ("__classdict__" : Str)) = false := by decide)
    (hbase : attributeBase (.Name x p) "append" X.env (eval (.Name x p) X.env) = eval (.Name x p) X.env := by rfl)
    (hfew : ((backTo cpos (starEach [e] X.env)).all (fun x => !x.1) && (backToKw cpos (keywordEach [] X.env)).all (fun x => x.1.isSome)
      && decide ([e].length + ([] : List Keyword).length + (if ([] : List Keyword).isEmpty then 0 else 1) < 30)) = true := by rfl)
    (hline : (apos.endLine == cpos.line) = true := by rfl) (hs : starEach [e] X.env = (false, eval e X.env) :: starEach [] X.env := by rfl) (hplain : (backTo cpos (starEach [] X.env)).any (·.1) = false := by rfl)
    (hsw : swapsWith (.Call (.Attribute (.Name x p) "append" apos) [e] [] cpos) none pos.line X.env = pure false := by rfl) : PSM X W (.Expr (.Call (.Attribute (.Name x p) "append" apos) [e] [] cpos) pos) (appM i m) := by
  refine PS.weaken (ps_expr (pe_bm PySem.F.plainAttrs_list PySem.F.slot_list_append PySem.F.type_list_append mt_append (pe_var hN hv hd hcd) (pa_cons hm pa_nil hs) hbase hfew hline hs hplain) hsw) ?_
  rintro D' σ H ⟨ra, HK, F, e, R, h⟩
  unfold appM at h
  obtain ⟨l, q, h1⟩ := wp_ownL h
  obtain ⟨a, e1, ⟨vs, hH, rp⟩, _⟩ := R.sl i _ q
  refine ⟨.ref a, e1, .inl ⟨rfl, vs, .of hH⟩, ?_⟩
  refine stepS R h1 fun F1 e1' d u H1 s1 R1 r1 q1 => ?_
  obtain ⟨l2, q2, h2⟩ := wp_ownL q1
  obtain ⟨hz, h3⟩ := wp_small h2
  obtain ⟨hl, h4⟩ := wp_setM h3
  obtain ⟨a2, e2, ⟨vs2, hH2, rp2⟩, _⟩ := R1.sl i _ q2
  rw [e1] at e2
  cases e2
  refine ⟨a, vs2, u, rfl, rfl, hH2, ?_, h4 _ F1 _ (Same.refl F1) (R1.store q2 e1 ⟨_, upd_same, rp2.append (.cons r1 .nil)⟩)⟩
  rw [rp2.length]
  rw [List.length_append] at hz
  exact hz
theorem psm_extend (i : Nat) (hm : PM X W e m) (hN : X.N[i]? = some x := by rfl) (hv : Vis X.env.scope x := by first | exact Or.inl rfl | exact Or.inr (Or.inl rfl) | exact Or.inr (Or.inr rfl)) (hd : (x == ("__debug__" : Str)) = false := by decide) (hcd : (x == ("__classdict__" : Str)) = false := by decide)
    (hbase : attributeBase (.Name x p) "extend" X.env (eval (.Name x p) X.env) = eval (.Name x p) X.env := by rfl)
    (hfew : ((backTo cpos (starEach [e] X.env)).all (fun x => !x.1) && (backToKw cpos (keywordEach [] X.env)).all (fun x => x.1.isSome)
      && decide ([e].length + ([] : List Keyword).length + (if ([] : List Keyword).isEmpty then 0 else 1) < 30)) = true := by rfl)
    (hline : (apos.endLine == cpos.line) = true := by rfl) (hs : starEach [e] X.env = (false, eval e X.env) :: starEach [] X.env := by rfl) (hplain : (backTo cpos (starEach [] X.env)).any (·.1) = false := by rfl)
    (hsw : swapsWith (.Call (.Attribute (.Name x p) "extend" apos) [e] [] cpos) none pos.line X.env = pure false := by rfl) : PSM X W (.Expr (.Call (.Attribute (.Name x p) "extend" apos) [e] [] cpos) pos) (extM i m) := by
  refine PS.weaken (ps_expr (pe_bm PySem.F.plainAttrs_list PySem.F.slot_list_extend PySem.F.type_list_extend mt_extend (pe_var hN hv hd hcd) (pa_cons hm pa_nil hs) hbase hfew hline hs hplain) hsw) ?_
  rintro D' σ H ⟨ra, HK, F, e, R, h⟩
  unfold extM at h
  obtain ⟨l, q, h1⟩ := wp_ownL h
  obtain ⟨a, e1, ⟨vs, hH, rp⟩, _⟩ := R.sl i _ q
  refine ⟨.ref a, e1, .inl ⟨rfl, vs, .of hH⟩, ?_⟩
  refine stepS R h1 fun F1 e1' d u H1 s1 R1 r1 q1 => ?_
  cases d with
  | lst k =>
    obtain ⟨l2, q2, h2⟩ := wp_ownL q1
    obtain ⟨hz, h3⟩ := wp_small h2
    obtain ⟨hl, h4⟩ := wp_setM h3
    obtain ⟨a2, e2, ⟨vs2, hH2, rp2⟩, _⟩ := R1.sl i _ q2
    rw [e1] at e2
    cases e2
    have r1' : Rep X.w X.K ra F1 u (.lst k) := r1
    cases r1' with
    | @lst b us ds h5 h6 =>
      refine ⟨a, b, vs2, us, rfl, rfl, hH2, R1.fh _ _ h5, ?_, h4 _ F1 _ (Same.refl F1) (R1.store q2 e1 ⟨_, upd_same, rp2.append h6⟩)⟩
      rw [rp2.length, h6.length, ← List.length_append]
      exact hz
  | _ => exact q1.elim
end
/-! ### calls -/
inductive FRes where
  | ret (d : D) (r : RowS) | exc (x : Exn) (r : RowS) | err
/-- what a def is to the mirror -/
abbrev FnM : Type := List D → RowS → FRes
/-- a state behind a call -/
structure Aft (ra : Addr) (F H F' H' : Hp) (row' : RowS) : Prop where
  f : Same F F'
  fh : Same F' H'
  fra : F' ra = none
  row : RowOk ra F' H' row'
  kept : ∀ b u, H b = some u → b ≠ ra → H' b = some u
  pn : ∀ b, H b ≠ none → F b = none → F' b = none
def spM (w : World) (K : PySem.W.Frag) (n : Nat) (f : FnM) : Sp := fun vs H Q E => ∃ ra F ds row, Same F H ∧ F ra = none ∧ RowOk ra F H row ∧ RepA w K ra F vs ds ∧ ds.length = n ∧ (match f ds row with
  | .ret d row' => ∀ F' H' v, Aft ra F H F' H' row' → Rep w K ra F' v d → Q v H'
  | .exc x row' => ∀ F' H' cls dd, Aft ra F H F' H' row' → ExIs w K ra F' H' x cls dd → E cls dd H'
  | .err => False)
/-- a body as a function: k more names behind the n parameters -/
def fnM (k : Nat) (b : M Fl) : FnM := fun ds row => match b ⟨ds.map Slot.val ++ List.replicate k .no, row⟩ with
  | .ok (.rt d) e => .ret d e.row
  | .ok .nx e => .ret .non e.row
  | .ok _ _ => .err
  | .exc x e => .exc x e.row
  | .err => .err
structure Fn (P : Program) (w : World) (K : PySem.W.Frag) (mg : Str → Option Value) (base : Heap) (x : Str) (k n : Nat) (g : FnM) : Prop where
  ex : ∃ f fd ps, FnOk P w K mg base (L2.CX P w) k f fd ps (spM w K n g) ∧ mg x = some (.ref f) ∧ PySem.W.keepIn K (.ref f) = true ∧ Binds K fd ps []
theorem Fn.mono {P : Program} {w : World} {K : PySem.W.Frag} {mg : Str → Option Value} {base : Heap} {x : Str} {k k' n : Nat} {g : FnM} (F : Fn P w K mg base x k n g) (h : k ≤ k') : Fn P w K mg base x k' n g :=
  let ⟨f, fd, ps, F1, a, b, c⟩ := F.ex
  ⟨f, fd, ps, F1.mono h, a, b, c⟩
def callM (f : FnM) (r : M (List D)) : M D := bindM r fun ds e => match f ds e.row with
  | .ret d row' => .ok d { e with row := row' }
  | .exc x row' => .exc x { e with row := row' }
  | .err => .err
theorem Rel.after {w : World} {K : PySem.W.Frag} {ra : Addr} {HK : Kp} {F F' H H' : Hp} {e : Env} {σ : St} {row' : RowS} (R : Rel w K ra HK F e σ H) (a : Aft ra F H F' H' row') : Rel w K ra HK F' { e with row := row' } σ H' := by
  have kp : ∀ b, F b = none ∧ HK.h b = none ∧ b ≠ ra ∧ H b ≠ none → H' b = H b := fun b hb => by
    cases ez : H b with
    | none => exact absurd ez hb.2.2.2
    | some u => exact a.kept b u ez hb.2.2.1
  refine ⟨a.fh, fun b u q => a.kept b u (R.kh b u q) (fun z => by rw [z, R.kra] at q; cases q), R.len, fun i s h => ?_, R.sep.heap fun i s b h c hs => kp b (R.foot h c hs (.inl rfl)), a.row, a.fra, R.kra, fun b hb => ⟨(R.pn b hb).1, ?_⟩⟩
  · refine (R.sl i s h).mono a.f fun q hc eq p hf => ?_
    have g := R.foot h hc eq hf
    refine ⟨kp p g, ?_⟩
    rw [g.1]
    exact a.pn p g.2.2.2 g.1
  · refine a.pn b ?_ (R.pn b hb).2
    cases ez : HK.h b with
    | none => exact absurd ez (R.pn b hb).1
    | some u =>
      rw [R.kh b u ez]
      exact fun z => by cases z
section
variable {X : Cx} {W : WX} {x : Str} {k k' n : Nat} {g : FnM} {e : Expr} {es : List Expr} {p pos : Pos} {r : M (List D)}
theorem call_read {n : Nat} {ta : TA} {te : TE} {σ : St} {H : Hp} {Q : VK} (h : tG TV X.w X.K W (callM g r) σ H Q) (hn : ∀ e ds e', r e = .ok ds e' → ds.length = n) : tCallS (spM X.w X.K n g) (WE W) (tG TAs X.w X.K W r) σ H Q := by
  obtain ⟨ra, HK, F, e, R, h⟩ := h
  unfold callM at h
  have h0 := wp_bind.mp h
  refine ⟨ra, HK, F, e, R, ?_⟩
  cases er : r e with
  | err =>
    rw [er] at h0
    exact h0
  | exc x e1 =>
    rw [er] at h0
    exact h0
  | ok ds e1 =>
    rw [er] at h0
    intro vs F1 H1 s1 R1 r1
    refine ⟨ra, F1, ds, e1.row, R1.fh, R1.fra, R1.row, r1, hn _ _ _ er, ?_⟩
    have h1 : Res.wp (match g ds e1.row with
      | .ret d row' => Res.ok d { e1 with row := row' }
      | .exc x row' => Res.exc x { e1 with row := row' }
      | .err => Res.err) (okG TV X.w X.K ra HK F σ Q) (exW X.w X.K ra HK F W) := h0
    cases eg : g ds e1.row with
    | err =>
      rw [eg] at h1
      exact h1
    | ret d row' =>
      rw [eg] at h1
      exact fun F' H' v a rv => h1 v F' H' (s1.trans a.f) (R1.after a) rv
    | exc x row' =>
      rw [eg] at h1
      exact fun F' H' cls dd a hx => h1 cls dd σ F' H' (s1.trans a.f) (R1.after a) hx
theorem pm_call (F : Fn X.prog X.w X.K X.mg X.base x k n g) (hr : Room k' X.A) (tk : Takes X W) (ha : PMA X W (e :: es) r) (hn : ∀ e ds e', r e = .ok ds e' → ds.length = n) (hk : k ≤ k' := by decide) (hg : Gl X x := by rfl)
    (hdb : (x == ("__debug__" : Str)) = false := by decide) (he : starEach (e :: es) X.env = (false, eval e X.env) :: starEach es X.env := by rfl) (hpl : (backTo pos (starEach es X.env)).any (·.1) = false := by rfl) : PM X W (.Call (.Name x p) (e :: es) [] pos) (callM g r) := by
  obtain ⟨f, fd, ps, F1, hm, kp, hb⟩ := F.ex
  exact PE.weaken (pe_callS F1 (hr.mono hk) hg hm kp hb (fun σ => passAt tk σ) ha hdb he hpl) fun σ H Q h => call_read (ta := tG TAs X.w X.K W r) (te := fun _ _ _ => False) h hn
theorem nil_len : ∀ (e : Env) (ds : List D) (e' : Env), (pureM [] : M (List D)) e = .ok ds e' → ds.length = 0 := fun e ds e' h => by
  cases h
  rfl
theorem cons_len {m : M D} {r : M (List D)} {n : Nat} (h : ∀ e ds e', r e = .ok ds e' → ds.length = n) : ∀ e ds e', consM m r e = .ok ds e' → ds.length = n + 1 := fun e ds e' hc => by
  unfold consM bindM at hc
  cases em : m e with
  | err =>
    rw [em] at hc
    cases hc
  | exc x e1 =>
    rw [em] at hc
    cases hc
  | ok d e1 =>
    rw [em] at hc
    simp only at hc
    cases er : r e1 with
    | err =>
      rw [er] at hc
      cases hc
    | exc x e2 =>
      rw [er] at hc
      cases hc
    | ok l e2 =>
      rw [er] at hc
      cases hc
      rw [List.length_cons, h _ _ _ er]
end
/-! ### a def's promise -/
section
variable {P : Program} {w : World} {K : PySem.W.Frag} {mg : Str → Option Value} {base : Heap} {x qual : Str} {params : Arguments} {body : List Stmt} {scope : Scope} {kws : List (Str × V)} {f : Addr} {fd : FuncData}
/-- the state at a def's entry -/
theorem rel_start {ra : Addr} {F H : Hp} {N : List Str} {vs : List V} {ds : List D} {row : RowS} (hf : Same F H) (fra : F ra = none) (ro : RowOk ra F H row) (rp : RepA w K ra F vs ds) (k : Nat) (hk : N.length - vs.length = k) :
    Rel w K ra ⟨fun b => if b = ra then none else H b, fun b => H b ≠ none ∧ F b = none ∧ b ≠ ra, .non⟩ F ⟨ds.map Slot.val ++ List.replicate k .no, row⟩ (L2.start N vs) H := by
  subst hk
  have nown : ∀ (i : Nat) (o : Slot), o.isC = true → (ds.map Slot.val ++ List.replicate (N.length - vs.length) Slot.no)[i]? ≠ some o := fun i o hc h => by
    rw [List.getElem?_append] at h
    split at h
    · rw [List.getElem?_map] at h
      cases q : ds[i]? with
      | none =>
        rw [q] at h
        cases h
      | some d =>
        rw [q] at h
        cases h
        cases hc
    · rw [List.getElem?_replicate] at h
      split at h
      · cases h
        cases hc
      · cases h
  refine ⟨hf, fun b u q => ?_, ?_, fun i s h => ?_, fun i j o o' a a' p _ h _ c _ _ _ => absurd h (nown i o c), ro, fra, if_pos rfl, fun b hb => ⟨?_, hb.2.1⟩⟩
  · by_cases c : b = ra
    · simp only [if_pos c] at q
      cases q
    · simp only [if_neg c] at q
      exact q
  · simp [L2.start, rp.length]
  · have h' : (ds.map Slot.val ++ List.replicate (N.length - vs.length) Slot.no)[i]? = some s := h
    rw [List.getElem?_append] at h'
    split at h'
    · rename_i hl
      rw [List.getElem?_map] at h'
      cases q : ds[i]? with
      | none =>
        rw [q] at h'
        cases h'
      | some d =>
        rw [q] at h'
        cases h'
        obtain ⟨v, hv, rv⟩ := rp.get q
        refine ⟨v, ?_, rv⟩
        unfold L2.start
        have hvl : i < vs.length := (List.getElem?_eq_some_iff.mp hv).1
        rw [List.getElem?_append_left (by simpa using hvl), List.getElem?_map, hv]
        rfl
    · rw [List.getElem?_replicate] at h'
      split at h'
      · cases h'
        trivial
      · cases h'
  · show (if b = ra then none else H b) ≠ none
    rw [if_neg hb.2.2]
    exact hb.1
theorem aft_of {ra : Addr} {F H F' H' : Hp} {e' : Env} {σ' : St} {p : V} (R' : Rel w K ra ⟨fun b => if b = ra then none else H b, fun b => H b ≠ none ∧ F b = none ∧ b ≠ ra, p⟩ F' e' σ' H') (s : Same F F') : Aft ra F H F' H' e'.row where
  f := s
  fh := R'.fh
  fra := R'.fra
  row := R'.row
  kept := fun b u q hb => R'.kh b u (by show (if b = ra then none else H b) = some u; rw [if_neg hb]; exact q)
  pn := fun b h1 h2 => by
    by_cases c : b = ra
    · rw [c]
      exact R'.fra
    · exact (R'.pn b ⟨h1, h2, c⟩).2
/-- THE RULE for a def -/
theorem fn_ok {N ps : List Str} {k n j : Nat} {b : M Fl} (FD : FunD K x qual params body scope [] kws f fd) (S : FnScope N ps scope) (hm : mg x = some (.ref f)) (hb : Binds K fd ps []) (hn : ps.length = n) (hj : N.length - n = j)
    (hbody : ∀ (cdv : Value) (A : Around) (outer : List PySem.Env) (s : Shared) (H : Hp) (E : XK), Room k (A.deeper (envOfC qual scope s.heap.objs.size f cdv)) → Takes (cxOf (L2.CX P w) P w K mg base N qual scope f cdv A outer s H E) (fun cls d _ H' => E cls d H') →
      PSsM (cxOf (L2.CX P w) P w K mg base N qual scope f cdv A outer s H E) (fun cls d _ H' => E cls d H') body b) : Fn P w K mg base x (k + 1) n (fnM j b) := by
  refine ⟨f, fd, ps, FD.ok S (fun vs H Q E h => ?_) (fun cdv A outer s H vs Q E hr h => ?_), hm, FD.kp, hb⟩
  · obtain ⟨ra, F, ds, row, _, _, _, rp, hl, _⟩ := h
    rw [rp.length, hl, hn]
  · have tk : Takes (cxOf (L2.CX P w) P w K mg base N qual scope f cdv A outer s H E) (fun cls d _ H' => E cls d H') := takes_of rfl rfl rfl rfl
    refine ⟨_, hbody cdv A outer s H E hr tk, ?_⟩
    obtain ⟨ra, F, ds, row, hf, fra, ro, rp, hl, h⟩ := h
    have R := rel_start (N := N) hf fra ro rp j (by rw [rp.length, hl]; exact hj)
    refine ⟨ra, _, F, _, R, ?_⟩
    unfold fnM at h
    show Res.wp _ _ _
    cases eb : b ⟨ds.map Slot.val ++ List.replicate j .no, row⟩ with
    | err =>
      rw [eb] at h
      exact h
    | exc y e' =>
      rw [eb] at h
      exact fun cls d σ' F' H' s' R' hx => h F' H' cls d (aft_of R' s') hx
    | ok fl e' =>
      rw [eb] at h
      intro σ' F' H' s' R'
      cases fl with
      | nx => exact h F' H' .non (aft_of R' s') .non
      | rt d => exact fun v rv => h F' H' v (aft_of R' s') rv
      | bk => exact h.elim
      | ct => exact h.elim
end
/-! ### raise -/
/-- an own class of errors without an own __init__ -/
structure ExcF (K : PySem.W.Frag) (mg : Str → Option Value) (x : Str) : Prop where
  q : PySem.W.excIn K (He.ga K x) He.veBase "ValueError.__new__" = true
  kC : PySem.W.keepIn K (.ref (He.ga K x)) = true
  sb : PySem.W.subIn K (.ref (He.ga K x)) (.type "BaseException") = some true
  ty : PySem.W.typeIn K (.ref (He.ga K x)) = some (.type "type")
  g : mg x = some (.ref (He.ga K x))
section
variable {X : Cx} {W : WX} {x : Str} {p pos pos2 : Pos}
theorem pmk_own0 (F : ExcF X.K X.mg x) (hg : Gl X x) (hdb : (x == ("__debug__" : Str)) = false := by decide) : PMk X (.Call (.Name x p) [] [] pos) (fun _ H Q => Q (.ref (He.ga X.K x)) none H) := by
  intro pins s σ H Q I h
  refine wpAny_Call_Name_kw (ld_glob I hg F.g ?_ hdb)
  refine PySem.W.callWith_K0 I.kIn F.kC ?_
  show wpAny _ _ (call (.ref (He.ga X.K x)) []) _ _ _
  obtain ⟨bm, N, nm, qn, bs, hdct, sn, sub, ab, col, dd, k0, k1, k2, k3, k5, mN, hC, hN, hni, T⟩ := exc_obj I.kIn F.q
  refine wpAny_call_exc_subT PySem.F.excBase_ValueError T hC hN hni (fun h' e hm => ?_) (Nat.zero_le _)
  exact mk_of I hm (raises_own F.sb F.ty) h (I.hok.gone hm.new)
def raiseM (c : Str) : M Fl := fun e => .exc ⟨c, []⟩ e
theorem psm_raise0 (F : ExcF X.K X.mg x) (tk : Takes X W) (hc : X.calm = true := by rfl) (hg : Gl X x := by rfl) (hdb : (x == ("__debug__" : Str)) = false := by decide) : PSM X W (.Raise (some (.Call (.Name x p) [] [] pos)) none pos2) (raiseM x) := by
  refine PS.weaken (ps_raise hc tk (pmk_own0 F hg hdb)) ?_
  rintro D' σ H ⟨ra, HK, F1, e, R, h⟩
  exact h _ none σ F1 H (Same.refl F1) R ⟨rfl, .inl ⟨rfl, rfl⟩⟩
end
end Mi

set_option Elab.async false
set_option linter.all false
set_option maxRecDepth 100000
set_option maxHeartbeats 4000000
/-! Mi, part Q: Rule(..), try, dead code. -/
namespace Mi
open PySem PySem.Spec PyProof.Rows L2
section
variable {X : Cx} {W : WX}
/-! ### what is never reached -/
theorem pssm_dead {st : List Stmt} : PSsM X W st errM := ⟨fun pins s σ H D I h => by
  obtain ⟨ra, HK, F, e, R, h⟩ := h
  exact h.elim⟩
/-! ### Rule(..) -/
/-- a def's body of which the end is told by hand -/
theorem pssi_nil {stores : List Stmt} {u : TS} (h : PSs X stores u) : PSs X stores (fun D' σ H => tS X.w X.K W nxM { D' with nx := u D' } σ H) := ⟨fun pins s σ H D' I hw => by
  obtain ⟨ra, HK, F, e, R, hw⟩ := hw
  exact h.run pins s σ H D' I (hw σ F H (Same.refl F) R)⟩
theorem pssi_cons {st : Stmt} {rest : List Stmt} {m n : M Fl} {u : TS} (h1 : PSM X W st m) (h2 : PSs X rest (fun D' σ H => tS X.w X.K W n { D' with nx := u D' } σ H)) : PSs X (st :: rest) (fun D' σ H => tS X.w X.K W (seqM m n) { D' with nx := u D' } σ H) := by
  refine PSs.weaken (pss_cons h1 h2) ?_
  rintro D' σ H ⟨ra, HK, F, e, R, h⟩
  unfold seqM at h
  refine ⟨ra, HK, F, e, R, wp_mono (wp_bind.mp h) (fun fl e' q σ' F' H' s R' => ?_) fun _ _ q => q⟩
  cases fl with
  | nx => exact ⟨ra, HK, F', e', R', wp_mono q (fun _ _ z => okS_mono s z) fun _ _ z => exW_mono s z⟩
  | bk => exact q σ' F' H' s R'
  | ct => exact q σ' F' H' s R'
  | rt d => exact q σ' F' H' s R'
end
/-- what a Rule's __init__ keeps: vs 0 is the new object -/
def spI (w : World) (K : PySem.W.Frag) (f : FnM) : Sp := fun vs H Q E => ∃ ra F ds row x dx us, vs = .ref x :: us ∧ Same F H ∧ F ra = none ∧ RowOk ra F H row ∧ RepA w K ra F us ds ∧ ds.length = 5 ∧
  H x = some (.ins (He.ga K "Rule") dx []) ∧ F x = none ∧ x ≠ ra ∧ (match f ds row with
  | .ret (.obj es) row' => ∀ F' H' H'' us', Aft ra F H F' H' row' → RepA w K ra F' us' es → us'.length = 5 → H'' x = some (.ins (He.ga K "Rule") dx (ruleF us')) → (∀ b, b ≠ x → H'' b = H' b) → Q .non H''
  | .ret _ _ => False
  | .exc y row' => ∀ F' H' cls dd, Aft ra F H F' H' row' → ExIs w K ra F' H' y cls dd → E cls dd H'
  | .err => False)
/-- the body, but for the stores -/
def initEnd (sl : List Slot) : Option (List D) := match sl with
  | .pin :: .val d1 :: .val d2 :: .val d3 :: .val d4 :: .val d5 :: _ => some [d1, d2, d3, d4, d5]
  | _ => none
theorem initEnd_inv {sl : List Slot} {l : List D} (h : initEnd sl = some l) : ∃ d1 d2 d3 d4 d5 r, sl = .pin :: .val d1 :: .val d2 :: .val d3 :: .val d4 :: .val d5 :: r ∧ l = [d1, d2, d3, d4, d5] := by
  unfold initEnd at h
  split at h
  · cases h
    exact ⟨_, _, _, _, _, _, rfl, rfl⟩
  · cases h
def initM (b : M Fl) : FnM := fun ds row => match b ⟨.pin :: ds.map Slot.val ++ [.no, .no], row⟩ with
  | .ok .nx e => (match initEnd e.sl with
    | some l => .ret (.obj l) e.row
    | none => .err)
  | .ok _ _ => .err
  | .exc x e => .exc x e.row
  | .err => .err
structure MkF (P : Program) (w : World) (K : PySem.W.Frag) (mg : Str → Option Value) (base : Heap) (k : Nat) (g : FnM) : Prop where
  ex : ∃ f fd ps, FnOk P w K mg base (L2.CX P w) k f fd ps (spI w K g) ∧ mg "Rule" = some (.ref (He.ga K "Rule")) ∧ Binds K fd ps [] ∧ Mk K (He.ga K "Rule") f
section
variable {X : Cx} {W : WX} {k k' : Nat} {g : FnM} {e : Expr} {es : List Expr} {p pos : Pos} {r : M (List D)}
theorem run_makeS {CX : CXT} {f C : Addr} {fd : FuncData} {ps : List Str} {sp : Sp} {E : St → XK} {pins : List (Addr × Obj)} {σ : L2.St} {H : Hp} {s : Shared} {Q : VK} {us : List Value} {vs : List V} (M : Mk X.K C f) (F1 : FnOk X.prog X.w X.K X.mg X.base CX k f fd ps sp) (hr : Room (k + 1) X.A) (hb : Binds X.K fd ps [])
    (hx : PassesAt CX X σ (E σ)) (I : Inv X pins σ H s) (r : Vals vs us)
    (h : ∀ x dx, H x = none → H dx = none → dx ≠ x → sp (.ref x :: vs) (upd (upd H dx (.own x)) x (.ins C dx [])) (fun v H2 => v = .non ∧ Q (.ref x) H2) (E σ)) :
    wpAny (model X.prog X.w) X.A (call (.ref C) us) (EP X pins σ Q) X.xe s := by
  have hq := h (s.heap.objs.size + 1) s.heap.objs.size (I.hok.fresh (Nat.le_succ _)) (I.hok.fresh (Nat.le_refl _)) (Nat.ne_of_lt (Nat.lt_succ_self _))
  have J := Inv.made (C := C) I
  have rr : Vals (V.ref (s.heap.objs.size + 1) :: vs) (Value.ref (s.heap.objs.size + 1) :: us) := .cons rfl r
  have el : (Value.ref (s.heap.objs.size + 1) :: us ++ []).length = ps.length := by rw [List.append_nil, ← rr.length, F1.len _ _ _ _ hq]
  have bb := hb _ (Value.ref (s.heap.objs.size + 1) :: us) J.kIn el
  rw [List.append_nil] at bb
  refine wpAny_call (make_map (f := f) I.kIn M.makes M.init (beq_iff_eq.mp M.fn) (codeAny_mono (F1.run _ X.stack _ _ ⟨Value.ref (s.heap.objs.size + 1) :: us, []⟩ (Value.ref (s.heap.objs.size + 1) :: us) _ _ (E σ) (hr.make C us []) (J.env0.make C us []) bb rr hq) fun z s' hz => ?_))
  cases z with
  | error er => exact hx pins _ _ er s' J hz
  | ok fl =>
    cases fl with
    | ret u =>
      obtain ⟨v, H', J3, rv, ev, q3⟩ := J.after hz
      subst ev
      exact ⟨rv, ⟨V.ref (s.heap.objs.size + 1), H', J3, rfl, q3⟩⟩
    | next => exact False.elim hz
    | brk => exact False.elim hz
    | cont => exact False.elim hz
theorem pm_make (F0 : MkF X.prog X.w X.K X.mg X.base k g) (hr : Room k' X.A) (tk : Takes X W) (ha : PMA X W (e :: es) r) (hn : ∀ e ds e', r e = .ok ds e' → ds.length = 5) (hret : ∀ ds row d row', g ds row = .ret d row' → ∃ l, d = .obj l) (hk : k + 1 ≤ k' := by decide) (hg : Gl X "Rule" := by rfl)
    (he : starEach (e :: es) X.env = (false, eval e X.env) :: starEach es X.env := by rfl) (hpl : (backTo pos (starEach es X.env)).any (·.1) = false := by rfl) : PM X W (.Call (.Name "Rule" p) (e :: es) [] pos) (callM g r) := by
  obtain ⟨f, fd, ps, F1, hm, hb, M⟩ := F0.ex
  refine ⟨fun pins s σ H Q I h => ?_⟩
  refine wpAny_Call_Name_kw (ld_glob I hg hm ?_ (by decide))
  obtain ⟨ra, HK, F, e0, R, h⟩ := h
  unfold callM at h
  have h0 := wp_bind.mp h
  have key : tG TAs X.w X.K W r σ H fun vs H1 => ∀ x dx, H1 x = none → H1 dx = none → dx ≠ x → spI X.w X.K g (.ref x :: vs) (upd (upd H1 dx (.own x)) x (.ins (He.ga X.K "Rule") dx [])) (fun v H2 => v = .non ∧ Q (.ref x) H2) (WE W σ) := by
    refine ⟨ra, HK, F, e0, R, ?_⟩
    cases er : r e0 with
    | err =>
      rw [er] at h0
      exact h0
    | exc x e1 =>
      rw [er] at h0
      exact h0
    | ok ds e1 =>
      rw [er] at h0
      intro vs F1 H1 s1 R1 r1 x dx hx hdx hne
      have fx : F1 x = none := R1.fh.free hx
      have fdx : F1 dx = none := R1.fh.free hdx
      have nra : x ≠ ra := fun z => R1.ra_some (by rw [← z]; exact hx)
      have ndx : dx ≠ ra := fun z => R1.ra_some (by rw [← z]; exact hdx)
      have hS : Same F1 (upd (upd H1 dx (.own x)) x (.ins (He.ga X.K "Rule") dx [])) := fun b u q => by
        rw [upd_ne (ne_of_none q fx), upd_ne (ne_of_none q fdx)]
        exact R1.fh b u q
      have rowS : RowOk ra F1 (upd (upd H1 dx (.own x)) x (.ins (He.ga X.K "Rule") dx [])) e1.row := R1.row.mono (Same.refl F1) (by rw [upd_ne nra.symm, upd_ne ndx.symm])
      have oldS : ∀ b u, H1 b = some u → (upd (upd H1 dx (.own x)) x (.ins (He.ga X.K "Rule") dx [])) b = some u := fun b u q => by
        rw [upd_ne (ne_of_none q hx), upd_ne (ne_of_none q hdx)]
        exact q
      refine ⟨ra, F1, ds, e1.row, x, dx, vs, rfl, hS, R1.fra, rowS, r1, hn _ _ _ er, upd_same, fx, nra, ?_⟩
      have aft1 : ∀ {F' H' row'}, Aft ra F1 (upd (upd H1 dx (.own x)) x (.ins (He.ga X.K "Rule") dx [])) F' H' row' → Aft ra F1 H1 F' H' row' := fun {F' H' row'} a =>
        ⟨a.f, a.fh, a.fra, a.row, fun b u q nb => a.kept b u (oldS b u q) nb, fun b h1 h2 => a.pn b (by
          cases ez : H1 b with
          | none => exact absurd ez h1
          | some u =>
            rw [oldS b u ez]
            exact fun z => by cases z) h2⟩
      have h1 : Res.wp (match g ds e1.row with
        | .ret d row' => Res.ok d { e1 with row := row' }
        | .exc x row' => Res.exc x { e1 with row := row' }
        | .err => Res.err) (okG TV X.w X.K ra HK F σ Q) (exW X.w X.K ra HK F W) := h0
      cases eg : g ds e1.row with
      | err =>
        rw [eg] at h1
        exact h1
      | exc y row' =>
        rw [eg] at h1
        exact fun F' H' cls dd a hx => h1 cls dd σ F' H' (s1.trans a.f) (R1.after (aft1 a)) hx
      | ret d row' =>
        rw [eg] at h1
        obtain ⟨l, rfl⟩ := hret _ _ _ _ eg
        intro F' H' H'' us' a hra hl hx2 hoth
        have fx' : F' x = none := a.pn x (by rw [upd_same]; exact fun z => by cases z) fx
        have b := aft1 a
        have a2 : Aft ra F1 H1 (upd F' x (.ins (He.ga X.K "Rule") dx (ruleF us'))) H'' row' := by
          refine ⟨b.f.trans (same_new fx'), fun c u q => ?_, by rw [upd_ne nra.symm]; exact b.fra, b.row.mono (same_new fx') (hoth ra nra.symm), fun c u q nc => ?_, fun c h2 h3 => ?_⟩
          · by_cases hc : c = x
            · rw [hc, upd_same] at q
              rw [hc, hx2]
              exact q
            · rw [upd_ne hc] at q
              rw [hoth c hc]
              exact b.fh c u q
          · rw [hoth c (ne_of_none q hx)]
            exact b.kept c u q nc
          · rw [upd_ne fun z => h2 (by rw [z]; exact hx)]
            exact b.pn c h2 h3
        exact ⟨rfl, h1 (.ref x) _ H'' (s1.trans a2.f) (R1.after a2) (.obj upd_same hl (hra.mono (same_new fx')))⟩
  refine PySem.W.callWith_K (h₀ := X.base) I.ok.mod.kin M.kp (thn (ha.run pos pins s σ H _ I key) fun us s1 ⟨vs, H1, I1, r1, q⟩ => ⟨I1.kIn, ?_⟩) he hpl
  exact run_makeS (E := WE W) M F1 (hr.mono hk) hb (passAt tk σ) I1 r1 q
end
/-! ### the stores of __init__ -/
section
variable {X : Cx} {p1 p2 p3 p4 : Pos}
/-- self.f = name -/
def sStore (K : PySem.W.Frag) (f : Str) (j : Nat) (u : Ends → L2.St → Hp → Prop) : TS := fun D' σ H => ∃ x dx fs v, σ[0]? = some (some (.ref x)) ∧ σ[j]? = some (some v) ∧ H x = some (.ins (He.ga K "Rule") dx fs) ∧ fs.length < 1000 ∧ u D' σ (upd H x (.ins (He.ga K "Rule") dx (putF f v fs)))
theorem ps_store1 {f n self : Str} (j : Nat) (cl : Cls X.K (He.ga X.K "Rule")) (na : NoAttr X.K (He.ga X.K "Rule") f) (h0 : X.N[0]? = some self := by rfl) (hv0 : Vis X.env.scope self := by first | exact Or.inl rfl | exact Or.inr (Or.inl rfl) | exact Or.inr (Or.inr rfl))
    (hj : X.N[j]? = some n := by rfl) (hv : Vis X.env.scope n := by first | exact Or.inl rfl | exact Or.inr (Or.inl rfl) | exact Or.inr (Or.inr rfl)) (hd0 : (self == ("__debug__" : Str)) = false := by decide) (hcd0 : (self == ("__classdict__" : Str)) = false := by decide)
    (hd : (n == ("__debug__" : Str)) = false := by decide) (hcd : (n == ("__classdict__" : Str)) = false := by decide) (hs : swapsWith (.Name n p1) (some (.Attribute (.Name self p2) f p3)) p4.line X.env = pure false := by rfl) :
    PS X (.Assign [.Attribute (.Name self p2) f p3] (.Name n p1) p4) (sStore X.K f j fun D' σ H => D'.nx σ H) := by
  refine PS.weaken (ps_fld (pe_var h0 hv0 hd0 hcd0) (pe_var hj hv hd hcd) hs) ?_
  rintro D' σ H ⟨x, dx, fs, v, e0, ej, hx, hl, q⟩
  exact ⟨v, ej, .ref x, e0, x, _, dx, fs, rfl, hx, cl, na, hl, q⟩
theorem upd_upd (H : Hp) (a : Addr) (u v : HO) : upd (upd H a u) a v = upd H a v := by
  funext b
  unfold upd
  by_cases c : b = a
  · simp [c]
  · simp [c]
theorem putF_len (f : Str) (v : V) : ∀ fs : List (Str × V), (putF f v fs).length ≤ fs.length + 1
  | [] => Nat.le_refl _
  | (g, x) :: r => by
    unfold putF
    split
    · exact Nat.le_succ _
    · exact Nat.succ_le_succ (putF_len f v r)
/-- the five -/
def tStores (K : PySem.W.Frag) : TS := fun D' σ H => ∃ x dx v1 v2 v3 v4 v5, σ[0]? = some (some (.ref x)) ∧ σ[1]? = some (some v1) ∧ σ[2]? = some (some v2) ∧ σ[3]? = some (some v3) ∧ σ[4]? = some (some v4) ∧ σ[5]? = some (some v5) ∧ H x = some (.ins (He.ga K "Rule") dx []) ∧
  D'.nx σ (upd H x (.ins (He.ga K "Rule") dx (ruleF [v1, v2, v3, v4, v5])))
theorem pss_stores {s1 s2 s3 s4 s5 : Stmt} (h1 : PS X s1 (sStore X.K "many" 1 fun D' σ H => D'.nx σ H)) (h2 : PS X s2 (sStore X.K "wide" 2 fun D' σ H => D'.nx σ H)) (h3 : PS X s3 (sStore X.K "rows" 3 fun D' σ H => D'.nx σ H))
    (h4 : PS X s4 (sStore X.K "low" 4 fun D' σ H => D'.nx σ H)) (h5 : PS X s5 (sStore X.K "high" 5 fun D' σ H => D'.nx σ H)) : PSs X [s1, s2, s3, s4, s5] (tStores X.K) := by
  refine PSs.weaken (pss_cons h1 (pss_cons h2 (pss_cons h3 (pss_cons h4 (pss_one h5))))) ?_
  rintro D' σ H ⟨x, dx, v1, v2, v3, v4, v5, e0, e1, e2, e3, e4, e5, hx, q⟩
  refine ⟨x, dx, [], v1, e0, e1, hx, by decide, ?_⟩
  refine ⟨x, dx, _, v2, e0, e2, upd_same, Nat.lt_of_le_of_lt (putF_len _ _ _) (by decide), ?_⟩
  rw [upd_upd]
  refine ⟨x, dx, _, v3, e0, e3, upd_same, by have := putF_len "many" v1 []; have := putF_len "wide" v2 (putF "many" v1 []); have := putF_len "rows" v3 (putF "wide" v2 (putF "many" v1 [])); have := putF_len "low" v4 (putF "rows" v3 (putF "wide" v2 (putF "many" v1 []))); simp only [List.length_nil] at *; omega, ?_⟩
  rw [upd_upd]
  refine ⟨x, dx, _, v4, e0, e4, upd_same, by have := putF_len "many" v1 []; have := putF_len "wide" v2 (putF "many" v1 []); have := putF_len "rows" v3 (putF "wide" v2 (putF "many" v1 [])); have := putF_len "low" v4 (putF "rows" v3 (putF "wide" v2 (putF "many" v1 []))); simp only [List.length_nil] at *; omega, ?_⟩
  rw [upd_upd]
  refine ⟨x, dx, _, v5, e0, e5, upd_same, by have := putF_len "many" v1 []; have := putF_len "wide" v2 (putF "many" v1 []); have := putF_len "rows" v3 (putF "wide" v2 (putF "many" v1 [])); have := putF_len "low" v4 (putF "rows" v3 (putF "wide" v2 (putF "many" v1 []))); simp only [List.length_nil] at *; omega, ?_⟩
  rw [upd_upd]
  exact q
end
section
variable {P : Program} {w : World} {K : PySem.W.Frag} {mg : Str → Option Value} {base : Heap} {x qual : Str} {params : Arguments} {body : List Stmt} {scope : Scope} {kws : List (Str × V)} {f : Addr} {fd : FuncData}
/-- THE RULE for Rule.__init__ -/
theorem mk_ok {N ps : List Str} {k : Nat} {b : M Fl} (FD : FunD K x qual params body scope [] kws f fd) (S : FnScope N ps scope) (hm : mg "Rule" = some (.ref (He.ga K "Rule"))) (hb : Binds K fd ps []) (hmk : Mk K (He.ga K "Rule") f) (hn : ps.length = 6) (hN : N.length = 8)
    (hbody : ∀ (cdv : Value) (A : Around) (outer : List PySem.Env) (s : Shared) (H : Hp) (E : XK), Room k (A.deeper (envOfC qual scope s.heap.objs.size f cdv)) → Takes (cxOf (L2.CX P w) P w K mg base N qual scope f cdv A outer s H E) (fun cls d _ H' => E cls d H') →
      PSs (cxOf (L2.CX P w) P w K mg base N qual scope f cdv A outer s H E) body (fun D' σ H1 => tS w K (fun cls d _ H' => E cls d H') b { D' with nx := tStores K D' } σ H1)) : MkF P w K mg base (k + 1) (initM b) := by
  refine ⟨f, fd, ps, FD.ok S (fun vs H Q E h => ?_) (fun cdv A outer s H vs Q E hr h => ?_), hm, hb, hmk⟩
  · obtain ⟨ra, F, ds, row, x, dx, us, rfl, _, _, _, rp, hl, _⟩ := h
    rw [List.length_cons, rp.length, hl, hn]
  · have tk : Takes (cxOf (L2.CX P w) P w K mg base N qual scope f cdv A outer s H E) (fun cls d _ H' => E cls d H') := takes_of rfl rfl rfl rfl
    refine ⟨_, hbody cdv A outer s H E hr tk, ?_⟩
    obtain ⟨ra, F, ds, row, x, dx, us, rfl, hf, fra, ro, rp, hl, hx, fx, nra, h⟩ := h
    obtain ⟨d1, d2, d3, d4, d5, rfl⟩ : ∃ d1 d2 d3 d4 d5, ds = [d1, d2, d3, d4, d5] := by
      match ds, hl with
      | [d1, d2, d3, d4, d5], _ => exact ⟨d1, d2, d3, d4, d5, rfl⟩
    cases rp with
    | @cons v1 _ _ _ r1 rp =>
    cases rp with
    | @cons v2 _ _ _ r2 rp =>
    cases rp with
    | @cons v3 _ _ _ r3 rp =>
    cases rp with
    | @cons v4 _ _ _ r4 rp =>
    cases rp with
    | @cons v5 _ _ _ r5 rp =>
    cases rp
    have es : L2.start N [.ref x, v1, v2, v3, v4, v5] = [some (.ref x), some v1, some v2, some v3, some v4, some v5, none, none] := by
      unfold L2.start
      rw [hN]
      rfl
    have R : Rel w K ra ⟨fun b => if b = ra then none else H b, fun b => H b ≠ none ∧ F b = none ∧ b ≠ ra, .ref x⟩ F ⟨.pin :: [d1, d2, d3, d4, d5].map Slot.val ++ [.no, .no], row⟩ (L2.start N [.ref x, v1, v2, v3, v4, v5]) H := by
      rw [es]
      refine ⟨hf, fun b u q => ?_, rfl, fun i t hi => ?_, fun i j s1 s2 a a' p hij h1 h2 c1 c2 h3 h4 => ?_, ro, fra, if_pos rfl, fun b hb => ⟨?_, hb.2.1⟩⟩
      · by_cases c : b = ra
        · simp only [if_pos c] at q
          cases q
        · simp only [if_neg c] at q
          exact q
      · match i, hi with
        | 0, hi => cases hi; rfl
        | 1, hi => cases hi; exact ⟨v1, rfl, r1⟩
        | 2, hi => cases hi; exact ⟨v2, rfl, r2⟩
        | 3, hi => cases hi; exact ⟨v3, rfl, r3⟩
        | 4, hi => cases hi; exact ⟨v4, rfl, r4⟩
        | 5, hi => cases hi; exact ⟨v5, rfl, r5⟩
        | 6, hi => cases hi; trivial
        | 7, hi => cases hi; trivial
        | i + 8, hi => cases hi
      · exfalso
        match i, h1 with
        | 0, h1 => cases h1; cases c1
        | 1, h1 => cases h1; cases c1
        | 2, h1 => cases h1; cases c1
        | 3, h1 => cases h1; cases c1
        | 4, h1 => cases h1; cases c1
        | 5, h1 => cases h1; cases c1
        | 6, h1 => cases h1; cases c1
        | 7, h1 => cases h1; cases c1
        | i + 8, h1 => cases h1
      · show (if b = ra then none else H b) ≠ none
        rw [if_neg hb.2.2]
        exact hb.1
    refine ⟨ra, _, F, _, R, ?_⟩
    unfold initM at h
    cases eb : b ⟨.pin :: [d1, d2, d3, d4, d5].map Slot.val ++ [.no, .no], row⟩ with
    | err =>
      rw [eb] at h
      exact h
    | exc y e' =>
      rw [eb] at h
      exact fun cls d σ' F' H' s' R' hx => h F' H' cls d (aft_of R' s') hx
    | ok fl e' =>
      rw [eb] at h
      intro σ' F' H' s' R'
      cases fl with
      | bk => exact h.elim
      | ct => exact h.elim
      | rt d => exact h.elim
      | nx =>
        simp only at h
        cases ee : initEnd e'.sl with
        | none =>
          rw [ee] at h
          exact h.elim
        | some l =>
          rw [ee] at h
          obtain ⟨d1', d2', d3', d4', d5', r', esl, rfl⟩ := initEnd_inv ee
          have g0 : σ'[0]? = some (some (V.ref x)) := R'.sl 0 .pin (by rw [esl]; rfl)
          obtain ⟨u1, g1, q1⟩ := R'.sl 1 (.val d1') (by rw [esl]; rfl)
          obtain ⟨u2, g2, q2⟩ := R'.sl 2 (.val d2') (by rw [esl]; rfl)
          obtain ⟨u3, g3, q3⟩ := R'.sl 3 (.val d3') (by rw [esl]; rfl)
          obtain ⟨u4, g4, q4⟩ := R'.sl 4 (.val d4') (by rw [esl]; rfl)
          obtain ⟨u5, g5, q5⟩ := R'.sl 5 (.val d5') (by rw [esl]; rfl)
          have hx' : H' x = some (.ins (He.ga K "Rule") dx []) := R'.kh x _ (by show (if x = ra then none else H x) = _; rw [if_neg nra]; exact hx)
          exact ⟨x, dx, u1, u2, u3, u4, u5, g0, g1, g2, g3, g4, g5, hx', h F' H' _ [u1, u2, u3, u4, u5] (aft_of R' s') (.cons q1 (.cons q2 (.cons q3 (.cons q4 (.cons q5 .nil))))) rfl upd_same fun b hb => upd_ne hb⟩
end
end Mi

set_option Elab.async false
set_option linter.all false
set_option maxRecDepth 100000
set_option maxHeartbeats 4000000
/-! Mi, part R: any, all, sum, max, min, list(range); try. -/
namespace Mi
open PySem PySem.Spec PyProof.Rows L2
def blsOf : List D → Option (List Bool)
  | [] => some []
  | .bl b :: r => (blsOf r).map (b :: ·)
  | _ => none
theorem blsOf_ok : ∀ {l : List D} {bs : List Bool}, blsOf l = some bs → l = bs.map D.bl
  | [], bs, h => by
    cases h
    rfl
  | .bl b :: r, bs, h => by
    simp only [blsOf, Option.map_eq_some_iff] at h
    obtain ⟨bs', h1, rfl⟩ := h
    rw [blsOf_ok h1]
    rfl
  | .non :: r, bs, h => by cases h
  | .int _ :: r, bs, h => by cases h
  | .str _ :: r, bs, h => by cases h
  | .tup _ :: r, bs, h => by cases h
  | .lst _ :: r, bs, h => by cases h
  | .dct _ :: r, bs, h => by cases h
  | .obj _ :: r, bs, h => by cases h
  | .row :: r, bs, h => by cases h
  | .exn _ _ _ :: r, bs, h => by cases h
theorem blsOf_map (bs : List Bool) : blsOf (bs.map D.bl) = some bs := by
  induction bs with
  | nil => rfl
  | cons b bs ih => simp [blsOf, ih]
def intsOf : List D → Option (List Int)
  | [] => some []
  | .int b :: r => (intsOf r).map (b :: ·)
  | _ => none
theorem intsOf_ok : ∀ {l : List D} {bs : List Int}, intsOf l = some bs → l = bs.map D.int
  | [], bs, h => by
    cases h
    rfl
  | .int b :: r, bs, h => by
    simp only [intsOf, Option.map_eq_some_iff] at h
    obtain ⟨bs', h1, rfl⟩ := h
    rw [intsOf_ok h1]
    rfl
  | .non :: r, bs, h => by cases h
  | .bl _ :: r, bs, h => by cases h
  | .str _ :: r, bs, h => by cases h
  | .tup _ :: r, bs, h => by cases h
  | .lst _ :: r, bs, h => by cases h
  | .dct _ :: r, bs, h => by cases h
  | .obj _ :: r, bs, h => by cases h
  | .row :: r, bs, h => by cases h
  | .exn _ _ _ :: r, bs, h => by cases h
theorem RepA.bls {w : World} {K : PySem.W.Frag} {ra : Addr} {F : Hp} : ∀ {vs : List V} {bs : List Bool}, RepA w K ra F vs (bs.map D.bl) → vs = bs.map V.bl
  | vs, [], h => by
    cases h
    rfl
  | vs, i :: is, h => by
    cases h with
    | cons a r =>
      cases a
      rw [RepA.bls r]
      rfl
def allF (d : D) : Option D := match d with
  | .lst l => (blsOf l).map fun bs => .bl (bs.all id)
  | _ => none
def anyF (d : D) : Option D := match d with
  | .lst l => (blsOf l).map fun bs => .bl (bs.any id)
  | _ => none
section
variable {X : Cx} {W : WX} {a b : Expr} {ma mb : M Ref} {pos : Pos}
theorem Held.bools {w : World} {K : PySem.W.Frag} {ra : Addr} {F H : Hp} (fh : Same F H) {v : V} {bs : List Bool} (h : Held w K ra F H v (.lst (bs.map D.bl))) : ∃ p, v = .ref p ∧ SqL K H p (bs.map V.bl) := by
  obtain ⟨p, vs, rfl, h1, h2⟩ := h.lst fh
  rw [h2.bls] at h1
  exact ⟨p, rfl, .of h1⟩
theorem c1s_all : C1S X.w X.K (rAll X.K) allF := by
  intro ra HK F e σ H x d z Q R hx hz q
  cases d with
  | lst l =>
    simp only [allF, Option.map_eq_some_iff] at hz
    obtain ⟨bs, h1, rfl⟩ := hz
    obtain rfl := blsOf_ok h1
    obtain ⟨p, rfl, h2⟩ := hx.bools R.fh
    exact ⟨p, bs, rfl, h2, q _ F H (Same.refl F) R (.bl _)⟩
  | _ => cases hz
theorem c1s_any : C1S X.w X.K (rAny X.K) anyF := by
  intro ra HK F e σ H x d z Q R hx hz q
  cases d with
  | lst l =>
    simp only [anyF, Option.map_eq_some_iff] at hz
    obtain ⟨bs, h1, rfl⟩ := hz
    obtain rfl := blsOf_ok h1
    obtain ⟨p, rfl, h2⟩ := hx.bools R.fh
    exact ⟨p, bs, rfl, h2, q _ F H (Same.refl F) R (.bl _)⟩
  | _ => cases hz
theorem pm_all {p : Pos} (hm : X.mg "all" = none) (ha : PMR X W a ma) (hc : X.calm = true := by rfl) (hg : Gl X "all" := by rfl) (hse : starEach [a] X.env = (false, eval a X.env) :: starEach [] X.env := by rfl) : PM X W (.Call (.Name "all" p) [a] [] pos) (op1M ma allF) :=
  pm_call1 (cr_all hc) c1s_all hm PyProof.Rows.boot_all ha hg (by decide) (by decide) hse
theorem pm_any {p : Pos} (hm : X.mg "any" = none) (ha : PMR X W a ma) (hc : X.calm = true := by rfl) (hg : Gl X "any" := by rfl) (hse : starEach [a] X.env = (false, eval a X.env) :: starEach [] X.env := by rfl) : PM X W (.Call (.Name "any" p) [a] [] pos) (op1M ma anyF) :=
  pm_call1 (cr_any hc) c1s_any hm PyProof.Rows.boot_any ha hg (by decide) (by decide) hse
/-! ### max(i, j), min(i, j) -/
def max2F (l : List D) : Option D := match l with
  | [.int i, .int j] => some (.int (max i j))
  | _ => none
def min2F (l : List D) : Option D := match l with
  | [.int i, .int j] => some (.int (min i j))
  | _ => none
def opLM (r : M (List D)) (f : List D → Option D) : M D := bindM r fun l => liftO (f l)
theorem opL_read {r : M (List D)} {f : List D → Option D} {rr : List V → Hp → VK → Prop} (hs : ∀ (ra : Addr) (HK : Kp) (F : Hp) (e : Env) (σ : St) (H : Hp) (vs : List V) (l : List D) (z : D) (Q : VK), Rel X.w X.K ra HK F e σ H → RepA X.w X.K ra F vs l → f l = some z → okG TV X.w X.K ra HK F σ Q z e → rr vs H Q)
    {σ : St} {H : Hp} {Q : VK} (h : tG TV X.w X.K W (opLM r f) σ H Q) : tCB rr (tG TAs X.w X.K W r) σ H Q := by
  obtain ⟨ra, HK, F, e, R, hw⟩ := h
  unfold opLM at hw
  refine stepG R hw fun F1 e1 l vs H1 s1 R1 r1 q1 => ?_
  unfold liftO at q1
  cases ez : f l with
  | none =>
    rw [ez] at q1
    exact q1.elim
  | some z =>
    rw [ez] at q1
    exact hs ra HK F1 e1 σ H1 vs l z Q R1 r1 ez q1
theorem two_ints {w : World} {K : PySem.W.Frag} {ra : Addr} {F : Hp} {vs : List V} {i j : Int} (h : RepA w K ra F vs [.int i, .int j]) : vs = [.int i, .int j] := by
  cases h with
  | cons a r =>
    cases r with
    | cons b r =>
      cases r
      cases a
      cases b
      rfl
theorem pm_min2 {r : M (List D)} {p : Pos} (hm : X.mg "min" = none) (ha : PMA X W [a, b] r) (hc : X.calm = true := by rfl) (hg : Gl X "min" := by rfl) (hse : starEach [a, b] X.env = (false, eval a X.env) :: starEach [b] X.env := by rfl) (hpl : (backTo pos (starEach [b] X.env)).any (·.1) = false := by rfl) : PM X W (.Call (.Name "min" p) [a, b] [] pos) (opLM r min2F) := by
  refine PE.weaken (pe_callB (call_min2 hc) hg hm PyProof.Rows.boot_min ha (by decide) (by decide) hse hpl) fun _ _ _ h => opL_read (fun ra HK F e σ H vs l z Q R rp ez q => ?_) h
  unfold min2F at ez
  split at ez
  · rename_i i j
    cases ez
    refine ⟨i, j, two_ints rp, ?_⟩
    have e : (if j < i then j else i) = min i j := by
      by_cases c : j < i
      · rw [if_pos c, Int.min_eq_right (by omega)]
      · rw [if_neg c, Int.min_eq_left (by omega)]
    rw [e]
    exact q _ F H (Same.refl F) R (.int _)
  · cases ez
/-! ### list(range(a, b)), tuple(range(a, b)) -/
def rg2 (x y : D) : Option (List D) := match x, y with
  | .int i, .int j => if okI i && okI j && decide (j - i ≤ 1000000) then some (rngL i j) else none
  | _, _ => none
def lstRgM (ma mb : M D) : M OD := bindM ma fun x => bindM mb fun y => liftO ((rg2 x y).map OD.lst)
end
/-! ### try -/
def exSub (c d : Str) : Bool := c == d || d == "CutError"
/-- the classes of errors -/
structure ExTab (K : PySem.W.Frag) (mg : Str → Option Value) (cs : List Str) : Prop where
  g : ∀ c ∈ cs, mg c = some (.ref (He.ga K c))
  m : ∀ c ∈ cs, ∀ d ∈ cs, PySem.W.exmOne K (.ref (He.ga K c)) (.ref (He.ga K d)) = some (exSub c d)
  i : ∀ c ∈ cs, ExcC K (He.ga K c)
  k : ∀ c ∈ cs, PySem.W.kitOne K (.ref (He.ga K c)) (.ref (He.ga K "CutError")) = some true
  cut : ("CutError" : Str) ∈ cs
section
variable {X : Cx} {W : WX} {cs : List Str}
/-- y = A if isinstance(e, CutError) else B, in an except suite -/
theorem suite_is {i j : Nat} {a : Addr} {oe : Obj} {c : Str} {pn : List (Addr × Obj)} {y n : Str} {py p p2 p3 p4 p5 pos : Pos} {A B : Expr} {mA : M D} (T : ExTab X.K X.mg cs) (hcs : c ∈ cs) (hz : Zc (.ref (He.ga X.K c)) none oe) (hf : ∃ vs, oe.data = .fields vs)
    (hA : PM (X.suite a ((a, oe) :: pn)) WN A mA) (hB : PM (X.suite a ((a, oe) :: pn)) WN B errM) (hm : X.mg "isinstance" = none) (hN : X.N.Nodup) (hi : X.N[i]? = some n) (hj : X.N[j]? = some y) (hvi : Vis X.env.scope n)
    (hdn : (n == ("__debug__" : Str)) = false) (hcn : (n == ("__classdict__" : Str)) = false)
    (hyl : Loc X.env.scope y) (hgi : Gl X "isinstance") (hgc : Gl X "CutError") (hse : starEach [.Name n p2, .Name "CutError" p3] X.env = (false, eval (.Name n p2) X.env) :: starEach [.Name "CutError" p3] X.env)
    (hsw : swapsWith (.IfExp (.Call (.Name "isinstance" p) [.Name n p2, .Name "CutError" p3] [] p4) A B p5) (some (.Name y py)) pos.line X.env = pure false) (hfn : X.fn y = true ∨ X.env.scope.names.lookup y = some .local) :
    PSs (X.suite a ((a, oe) :: pn)) [.Assign [.Name y py] (.IfExp (.Call (.Name "isinstance" p) [.Name n p2, .Name "CutError" p3] [] p4) A B p5) pos] (fun D' σ H => σ[i]? = some (some (.ref a)) ∧ tS X.w X.K WN (asgM j mA) D' σ H) := by
  have pc : PE (X.suite a ((a, oe) :: pn)) (.Call (.Name "isinstance" p) [.Name n p2, .Name "CutError" p3] [] p4) _ := pe_callB (call_isE (T.i c hcs) hz hf) hgi hm (by decide +kernel) (pa_cons (pe_var (i := i) hi hvi hdn hcn) (pa_cons (pe_glob (v := .ref (He.ga X.K "CutError")) hgc (T.g _ T.cut) rfl (by decide)) pa_nil rfl) hse) (by decide) (by decide) hse rfl
  have ps := pss_one (ps_set (X := X.suite a ((a, oe) :: pn)) (pos := pos) (pos' := py) hN hj hyl (pe_ifExp (X := X.suite a ((a, oe) :: pn)) (pos := p5) (pt_val pc) hA hB) hsw hfn)
  refine PSs.weaken ps ?_
  rintro D' σ H ⟨e1, ra, HK, F, e, R, h⟩
  refine ⟨.ref a, e1, ?_⟩
  refine ⟨.ref (He.ga X.K "CutError"), .ref (He.ga X.K "CutError"), true, rfl, fun u r => r, T.k c hcs, ?_⟩
  · refine ⟨true, rfl, iteT ?_⟩
    unfold asgM at h
    refine stepS R h fun F1 e1' d v H1 s1 R1 r1 q1 => ?_
    obtain ⟨h1, q2⟩ := wp_setM q1
    exact q2 _ F1 H1 (Same.refl F1) (R1.setVal h1 r1)
end
end Mi

set_option Elab.async false
set_option linter.all false
set_option maxRecDepth 100000
set_option maxHeartbeats 4000000
/-! Mi, part S: several names set at once, each a value or a container of one's own. -/
namespace Mi
open PySem PySem.Spec PyProof.Rows L2
section
variable {w : World} {K : PySem.W.Frag} {ra : Addr} {HK : Kp} {F F' H H' : Hp} {e : Env} {σ : St}
/-- a new container is pinned while more is read -/
theorem Rel.pinTO (R : Rel w K ra HK F e σ H) {a : Addr} {o : OD} (t : TO w K ra HK σ e F H (.ref a) o) : ∃ u, H a = some u ∧ Rel w K ra (pinD HK a u) F e σ H := by
  obtain ⟨a', ea, r, fa, ka, na, nd⟩ := t
  cases ea
  obtain ⟨u, hu⟩ : ∃ u, H a = some u := by
    cases o with
    | lst ds =>
      obtain ⟨vs, h1, _⟩ := r
      exact ⟨_, h1⟩
    | dct kvs =>
      obtain ⟨es, ⟨o, h1, _⟩, _⟩ := r
      exact ⟨_, h1⟩
  refine ⟨u, hu, R.fh, fun b z q => ?_, R.len, fun i s h => ?_, R.sep, R.row, R.fra, ?_, fun b hb => ?_⟩
  · have q' : upd HK.h a u b = some z := q
    by_cases hb : b = a
    · rw [hb, upd_same] at q'
      rw [hb, hu]
      exact q'
    · rw [upd_ne hb] at q'
      exact R.kh b z q'
  · cases s with
    | no => trivial
    | pin => exact R.sl i _ h
    | val d => exact R.sl i _ h
    | own o' =>
      obtain ⟨b, e1, r, fb, kb, nb⟩ := R.sl i _ h
      refine ⟨b, e1, r, fb, ?_, nb⟩
      show upd HK.h a u b = none
      rw [upd_ne fun z => nd i _ b h rfl e1 (.inl z.symm)]
      exact kb
    | box l =>
      obtain ⟨b, e1, es, at_, rb, nd', f⟩ := R.sl i _ h
      refine ⟨b, e1, es, at_, rb, nd', fun p hp => ?_⟩
      obtain ⟨f1, f2, f3, f4⟩ := f p hp
      refine ⟨f1, ?_, f3, f4⟩
      show upd HK.h a u p = none
      rw [upd_ne fun z => nd i _ b h rfl e1 (by rw [← z]; exact hp.imp id fun q => ⟨rfl, q⟩)]
      exact f2
  · show upd HK.h a u ra = none
    rw [upd_ne na.symm]
    exact R.kra
  · rcases hb with hb | rfl
    · refine ⟨?_, (R.pn b hb).2⟩
      show upd HK.h a u b ≠ none
      by_cases c : b = a
      · rw [c, upd_same]
        exact fun z => by cases z
      · rw [upd_ne c]
        exact (R.pn b hb).1
    · exact ⟨by show upd HK.h b u b ≠ none; rw [upd_same]; exact (fun z => by cases z), fa⟩
end
/-- values that are to be set, each a value or new -/
def TSl : List V → List Slot → World → PySem.W.Frag → Addr → Kp → St → Env → Hp → Hp → Prop
  | [], [] => fun w K ra HK σ e F H => Rel w K ra HK F e σ H
  | v :: vs, .val d :: ss => fun w K ra HK σ e F H => Rep w K ra F v d ∧ TSl vs ss w K ra HK σ e F H
  | v :: vs, .own o :: ss => fun w K ra HK σ e F H => ∃ a u, v = .ref a ∧ HK.h a = none ∧ (∀ b, HK.pin b → HK.h b ≠ none) ∧ RepO w K ra F H a o ∧ TSl vs ss w K ra (pinD HK a u) σ e F H
  | v :: vs, .box l :: ss => fun w K ra HK σ e F H => vs = [] ∧ ss = [] ∧ Rel w K ra HK F e σ H ∧ ∃ a, v = .ref a ∧ BoxAt w K ra HK F H a l ∧ ∀ p, Foot H (.box l) a p → NotIn e σ H p
  | _, _ => fun _ _ _ _ _ _ _ _ => False
def consV (m : M D) (r : M (List Slot)) : M (List Slot) := bindM m fun d => bindM r fun ss => pureM (.val d :: ss)
def consO (m : M OD) (r : M (List Slot)) : M (List Slot) := bindM m fun o => bindM r fun ss => pureM (.own o :: ss)
def setAll : List Nat → List Slot → M Unit
  | [], [] => pureM ()
  | i :: is, s :: ss => bindM (setAll is ss) fun _ => setM i s
  | _, _ => errM
def setS : List Nat → List V → L2.St → L2.St
  | i :: is, v :: vs, σ => (setS is vs σ).set i (some v)
  | _, _, σ => σ
/-- reading of a list of slots: the state that holds is told by TSl itself -/
def okL (w : World) (K : PySem.W.Frag) (ra : Addr) (HK : Kp) (F : Hp) (σ : L2.St) (Q : List V → Hp → Prop) : List Slot → Env → Prop := fun ss e' => ∀ vs F' H', Same F F' → TSl vs ss w K ra HK σ e' F' H' → Q vs H'
def tL (w : World) (K : PySem.W.Frag) (W : WX) (m : M (List Slot)) : TA := fun σ H Q => ∃ ra HK F e, Rel w K ra HK F e σ H ∧ (m e).wp (okL w K ra HK F σ Q) (exW w K ra HK F W)
def PML (X : Cx) (W : WX) (es : List Expr) (m : M (List Slot)) : Prop := PA X es (tL X.w X.K W m)
theorem TSl.kept {w : World} {K : PySem.W.Frag} {ra : Addr} {F H : Hp} {e : Env} {σ : L2.St} : ∀ {vs : List V} {ss : List Slot} {HK : Kp}, TSl vs ss w K ra HK σ e F H → ∀ b u, HK.h b = some u → H b = some u
  | [], [], HK, h, b, u, q => Rel.kh h b u q
  | v :: vs, .val d :: ss, HK, h, b, u, q => TSl.kept (vs := vs) (ss := ss) h.2 b u q
  | v :: vs, .own o :: ss, HK, h, b, u, q => by
    obtain ⟨a, u', _, ka, _, _, t⟩ := h
    refine TSl.kept (vs := vs) (ss := ss) t b u ?_
    show upd HK.h a u' b = some u
    rw [upd_ne (ne_of_none q ka)]
    exact q
  | [], _ :: _, _, h, _, _, _ => h.elim
  | _ :: _, [], _, h, _, _, _ => h.elim
  | _ :: _, .no :: _, _, h, _, _, _ => h.elim
  | _ :: _, .pin :: _, _, h, _, _, _ => h.elim
  | v :: vs, .box l :: ss, HK, h, b, u, q => Rel.kh h.2.2.1 b u q
theorem setM_ok {i : Nat} {s : Slot} {e : Env} {e' : Env} (h : setM i s e = .ok () e') : i < e.sl.length ∧ e' = { e with sl := e.sl.set i s } := by
  unfold setM at h
  by_cases c : i < e.sl.length
  · rw [if_pos c] at h
    cases h
    exact ⟨c, rfl⟩
  · rw [if_neg c] at h
    cases h
theorem setAll_cons {i : Nat} {is : List Nat} {s : Slot} {ss : List Slot} {e e' : Env} (h : setAll (i :: is) (s :: ss) e = .ok () e') : ∃ e1, setAll is ss e = .ok () e1 ∧ i < e1.sl.length ∧ e' = { e1 with sl := e1.sl.set i s } := by
  unfold setAll bindM at h
  cases q : setAll is ss e with
  | err =>
    rw [q] at h
    cases h
  | exc x e1 =>
    rw [q] at h
    cases h
  | ok u e1 =>
    rw [q] at h
    obtain ⟨h1, h2⟩ := setM_ok h
    exact ⟨e1, rfl, h1, h2⟩
theorem TSl.set {w : World} {K : PySem.W.Frag} {ra : Addr} {F H : Hp} {e : Env} {σ : L2.St} : ∀ {is : List Nat} {vs : List V} {ss : List Slot} {HK : Kp} {e' : Env}, TSl vs ss w K ra HK σ e F H → setAll is ss e = .ok () e' → Rel w K ra HK F e' (setS is vs σ) H
  | [], [], [], HK, e', h, q => by
    cases q
    exact h
  | i :: is, v :: vs, .val d :: ss, HK, e', h, q => by
    obtain ⟨e1, q1, hl, rfl⟩ := setAll_cons q
    exact (TSl.set (is := is) h.2 q1).setVal hl h.1
  | i :: is, v :: vs, .own o :: ss, HK, e', h, q => by
    obtain ⟨e1, q1, hl, rfl⟩ := setAll_cons q
    obtain ⟨a, u, rfl, ka, hpn, rp, t⟩ := h
    have R := TSl.set (is := is) t q1
    obtain ⟨R2, fa, na, hu, nd⟩ := R.unpin ka hpn
    exact R2.setOwn hl ⟨a, rfl, rp, fa, ka, na, nd⟩
  | _ :: _, [], [], _, _, _, q => by cases q
  | [], _ :: _, [], _, _, h, _ => h.elim
  | [], [], _ :: _, _, _, _, q => by cases q
  | [], _ :: _, _ :: _, _, _, _, q => by cases q
  | _ :: _, [], _ :: _, _, _, h, _ => h.elim
  | _ :: _, _ :: _, [], _, _, h, _ => h.elim
  | _ :: _, _ :: _, .no :: _, _, _, h, _ => h.elim
  | _ :: _, _ :: _, .pin :: _, _, _, h, _ => h.elim
  | i :: is, v :: vs, .box l :: ss, HK, e', h, q => by
    obtain ⟨e1, q1, hl, rfl⟩ := setAll_cons q
    obtain ⟨rfl, rfl, R, a, rfl, bx, nin⟩ := h
    cases is with
    | nil =>
      cases q1
      exact R.setC hl ⟨a, rfl, bx⟩ nin
    | cons j is => cases q1
theorem setAll_quiet : ∀ (is : List Nat) (ss : List Slot) (e : Env) (x : Exn) (e' : Env), setAll is ss e ≠ .exc x e'
  | [], [], e, x, e', h => by cases h
  | i :: is, s :: ss, e, x, e', h => by
    unfold setAll bindM at h
    cases q : setAll is ss e with
    | err =>
      rw [q] at h
      cases h
    | exc y e1 => exact setAll_quiet is ss e y e1 q
    | ok u e1 =>
      rw [q] at h
      unfold setM at h
      simp only at h
      split at h <;> cases h
  | [], _ :: _, e, x, e', h => by cases h
  | _ :: _, [], e, x, e', h => by cases h
section
variable {X : Cx} {W : WX} {a : Expr} {es : List Expr} {m : M D} {mo : M OD} {r : M (List Slot)}
theorem pml_nil : PML X W [] (pureM []) := PA.weaken pa_nil fun σ H Q h => by
  obtain ⟨ra, HK, F, e, R, h⟩ := h
  exact h [] F H (Same.refl F) R
theorem okL_mono {w : World} {K : PySem.W.Frag} {ra : Addr} {HK : Kp} {F F1 : Hp} {σ : L2.St} {Q : List V → Hp → Prop} (s : Same F F1) {ss : List Slot} {e' : Env} (h : okL w K ra HK F σ Q ss e') : okL w K ra HK F1 σ Q ss e' := fun vs F' H' s' => h vs F' H' (s.trans s')
theorem pml_val (ha : PM X W a m) (hr : PML X W es r) (hs : starEach (a :: es) X.env = (false, eval a X.env) :: starEach es X.env := by rfl) : PML X W (a :: es) (consV m r) := by
  refine PA.weaken (pa_cons ha hr hs) ?_
  rintro σ H Q ⟨ra, HK, F, e, R, h⟩
  unfold consV at h
  refine step (A := fun F => okL X.w X.K ra HK F σ Q) R h (fun F' c e' s q => okL_mono s q) fun F1 e1 d v H1 s1 R1 r1 q1 => ?_
  refine ⟨ra, HK, F1, e1, R1, wp_mono (wp_bind.mp q1) (fun ss e2 z vs F2 H2 s2 t => ?_) fun _ _ z => z⟩
  exact z (v :: vs) F2 H2 s2 ⟨Rep.mono s2 r1, t⟩
theorem pml_own (ha : PMO X W a mo) (hr : PML X W es r) (hs : starEach (a :: es) X.env = (false, eval a X.env) :: starEach es X.env := by rfl) : PML X W (a :: es) (consO mo r) := by
  refine PA.weaken (pa_cons ha hr hs) ?_
  rintro σ H Q ⟨ra, HK, F, e, R, h⟩
  unfold consO at h
  refine step (A := fun F => okL X.w X.K ra HK F σ Q) R h (fun F' c e' s q => okL_mono s q) fun F1 e1 o v H1 s1 R1 r1 q1 => ?_
  obtain ⟨b, rfl, rp, fb, kb, nb, nd⟩ := id r1
  obtain ⟨u, hu, R2⟩ := R1.pinTO r1
  have hpn : ∀ a, HK.pin a → HK.h a ≠ none := fun a ha => (R1.pn a ha).1
  refine ⟨ra, _, F1, e1, R2, wp_mono (wp_bind.mp q1) (fun ss e2 z vs F2 H2 s2 t => ?_) fun x e2 z cls d σ' F' H' s' R' hx => ?_⟩
  · have hu2 : H2 b = some u := TSl.kept t b u (by show upd HK.h b u b = some u; exact upd_same)
    refine z (.ref b :: vs) F2 H2 s2 ⟨b, u, rfl, kb, hpn, ?_, t⟩
    cases o with
    | lst ds =>
      obtain ⟨us, h1, h2⟩ := rp
      rw [hu] at h1
      exact ⟨us, hu2.trans h1, h2.mono s2⟩
    | dct kvs =>
      obtain ⟨es, ⟨ob, h1, h3⟩, h2⟩ := rp
      rw [hu] at h1
      exact ⟨es, ⟨ob, hu2.trans h1, h3⟩, h2.mono s2⟩
  · exact z cls d σ' F' H' s' (R'.unpin kb hpn).1 hx
def parM (is : List Nat) (r : M (List Slot)) : M Fl := bindM r fun ss => bindM (setAll is ss) fun _ => pureM .nx
theorem par_step {is : List Nat} {D' : Ends} {σ : L2.St} {H : Hp} (h : tS X.w X.K W (parM is r) D' σ H) {Q : List V → Hp → Prop} (k : ∀ vs H1, vs.length = is.length → D'.nx (setS is vs σ) H1 → Q vs H1) : tL X.w X.K W r σ H Q := by
  obtain ⟨ra, HK, F, e, R, h⟩ := h
  unfold parM at h
  refine ⟨ra, HK, F, e, R, wp_mono (wp_bind.mp h) (fun ss e1 z vs F1 H1 s1 t => ?_) fun _ _ z => z⟩
  have z1 := wp_bind.mp z
  cases q : setAll is ss e1 with
  | err =>
    rw [q] at z1
    exact z1.elim
  | exc x e2 => exact absurd q (setAll_quiet _ _ _ _ _)
  | ok u e2 =>
    rw [q] at z1
    have R2 := TSl.set t q
    refine k vs H1 ?_ (z1 _ F1 H1 s1 R2)
    clear z1 z R2
    have : ∀ (is : List Nat) (vs : List V) (ss : List Slot) (HK : Kp) (e1 e2 : Env), TSl vs ss X.w X.K ra HK σ e1 F1 H1 → setAll is ss e1 = .ok () e2 → vs.length = is.length := by
      intro is
      induction is with
      | nil =>
        intro vs ss HK e1 e2 t q
        match vs, ss, t, q with
        | [], [], _, _ => rfl
        | _, _ :: _, _, q => cases q
        | _ :: _, [], t, _ => exact t.elim
      | cons i is ih =>
        intro vs ss HK e1 e2 t q
        match vs, ss, t, q with
        | [], [], _, q => cases q
        | [], _ :: _, t, _ => exact t.elim
        | _ :: _, [], t, _ => exact t.elim
        | v :: vs, .val d :: ss, t, q =>
          obtain ⟨e3, q1, _⟩ := setAll_cons q
          rw [List.length_cons, List.length_cons, ih vs ss HK e1 e3 t.2 q1]
        | v :: vs, .own o :: ss, t, q =>
          obtain ⟨e3, q1, _⟩ := setAll_cons q
          obtain ⟨a, u, _, _, _, _, t⟩ := t
          rw [List.length_cons, List.length_cons, ih vs ss _ e1 e3 t q1]
        | _ :: _, .no :: _, t, _ => exact t.elim
        | _ :: _, .pin :: _, t, _ => exact t.elim
        | v :: vs, .box l :: ss, t, q =>
          obtain ⟨e3, q1, _⟩ := setAll_cons q
          obtain ⟨rfl, rfl, _⟩ := t
          cases is with
          | nil => rfl
          | cons j is => cases q1
    exact this is vs ss HK e1 e2 t q
theorem psm_par2 (i j : Nat) {x y : Str} {a b : Expr} {px py pt pos : Pos} {kt k2 pt2} (ha : PML X W [a, b] r) (hN : X.N.Nodup) (hc : X.calm = true := by rfl) (hi : X.N[i]? = some x := by rfl) (hj : X.N[j]? = some y := by rfl) (hij : i ≠ j := by decide)
    (hx : X.env.scope.names.lookup x = some .local := by rfl) (hy : X.env.scope.names.lookup y = some .local := by rfl) (hw : swappedStores [.Tuple [.Name x px, .Name y py] kt pt] (.Tuple [a, b] k2 pt2) X.env = pure (some [x, y]) := by rfl)
    (hs : swapsWithSole [.Tuple [.Name x px, .Name y py] kt pt] (.Tuple [a, b] k2 pt2) pos.line X.env = pure false := by rfl) : PSM X W (.Assign [.Tuple [.Name x px, .Name y py] kt pt] (.Tuple [a, b] k2 pt2) pos) (parM [i, j] r) := by
  refine PS.weaken (ps_par hc hN hi hj hij hx hy ha hw hs) fun D' σ H h => par_step h fun vs H1 hl z => ?_
  match vs, hl, z with
  | [v, w], _, z =>
    refine ⟨v, w, rfl, ?_⟩
    have e : setS [i, j] [v, w] σ = (σ.set i (some v)).set j (some w) := by
      show (σ.set j (some w)).set i (some v) = _
      exact List.set_comm _ _ (Ne.symm hij)
    rw [← e]
    exact z
theorem psm_par3 (i j l : Nat) {x y z : Str} {a b c : Expr} {px py pz pt pos : Pos} {kt k2 pt2} (ha : PML X W [a, b, c] r) (hN : X.N.Nodup) (hc : X.calm = true := by rfl) (hi : X.N[i]? = some x := by rfl) (hj : X.N[j]? = some y := by rfl) (hl : X.N[l]? = some z := by rfl) (hij : i ≠ j := by decide) (hil : i ≠ l := by decide) (hjl : j ≠ l := by decide)
    (hx : X.env.scope.names.lookup x = some .local := by rfl) (hy : X.env.scope.names.lookup y = some .local := by rfl) (hz : X.env.scope.names.lookup z = some .local := by rfl) (hw : swappedStores [.Tuple [.Name x px, .Name y py, .Name z pz] kt pt] (.Tuple [a, b, c] k2 pt2) X.env = pure (some [x, y, z]) := by rfl)
    (hs : swapsWithSole [.Tuple [.Name x px, .Name y py, .Name z pz] kt pt] (.Tuple [a, b, c] k2 pt2) pos.line X.env = pure false := by rfl) : PSM X W (.Assign [.Tuple [.Name x px, .Name y py, .Name z pz] kt pt] (.Tuple [a, b, c] k2 pt2) pos) (parM [i, j, l] r) := by
  refine PS.weaken (ps_par3 hc hN hi hj hl hij hil hjl hx hy hz ha hw hs) fun D' σ H h => par_step h fun vs H1 hlen zz => ?_
  match vs, hlen, zz with
  | [u, v, w], _, zz =>
    refine ⟨u, v, w, rfl, ?_⟩
    have e : setS [i, j, l] [u, v, w] σ = ((σ.set i (some u)).set j (some v)).set l (some w) := by
      show ((σ.set l (some w)).set j (some v)).set i (some u) = _
      rw [List.set_comm _ _ (Ne.symm hjl), List.set_comm _ _ (Ne.symm hil), List.set_comm _ _ (Ne.symm hij)]
    rw [← e]
    exact zz
end
end Mi

set_option Elab.async false
set_option linter.all false
set_option maxRecDepth 100000
set_option maxHeartbeats 4000000
/-! Mi, part T: the law's row of draws. -/
namespace Mi
open PySem PySem.Spec PyProof.Rows L2
def RowS.get (r : RowS) (k : Nat) : D := match k with
  | 0 => .lst (r.xs.map D.int)
  | 1 => .int r.at_
  | 2 => .int r.big
  | _ => .int r.seed
def RowS.put (r : RowS) (k : Nat) (i : Int) : RowS := match k with
  | 1 => { r with at_ := i }
  | 2 => { r with big := i }
  | _ => { r with seed := i }
/-- row[k] -/
def rowM (i k : Nat) : M D := fun e => match e.sl[i]? with
  | some (.val .row) => .ok (e.row.get k) e
  | _ => .err
/-- row[k] = n -/
def rowSet (i k : Nat) (m : M D) : M Fl := bindM m fun d => match d with
  | .int n => fun e => (match e.sl[i]? with
    | some (.val .row) => .ok .nx { e with row := e.row.put k n }
    | _ => .err)
  | _ => errM
theorem Rel.rowPut {w : World} {K : PySem.W.Frag} {ra : Addr} {HK : Kp} {F H : Hp} {e : Env} {σ : L2.St} (R : Rel w K ra HK F e σ H) {r' : RowS} {L : Addr} (hL : F L = some (.lst (r'.xs.map V.int))) : Rel w K ra HK F { e with row := r' } σ (upd H ra (.lst [.ref L, .int r'.at_, .int r'.big, .int r'.seed])) := by
  refine ⟨fun b u q => ?_, fun b u q => ?_, R.len, fun i s h => ?_, R.sep.heap fun i s a h c hs => upd_ne (R.foot h c hs (.inl rfl)).2.2.1, ⟨L, upd_same, hL⟩, R.fra, R.kra, R.pn⟩
  · rw [upd_ne (ne_of_none q R.fra)]
    exact R.fh b u q
  · rw [upd_ne (ne_of_none q R.kra)]
    exact R.kh b u q
  · exact (R.sl i s h).mono (Same.refl F) fun q hc eq p hf => ⟨upd_ne (R.foot h hc eq hf).2.2.1, rfl⟩
theorem rep_ints {w : World} {K : PySem.W.Frag} {ra : Addr} {F : Hp} {L : Addr} {xs : List Int} (h : F L = some (.lst (xs.map V.int))) : Rep w K ra F (.ref L) (.lst (xs.map D.int)) := .lst h (RepA.ofInts xs)
section
variable {X : Cx} {W : WX} {x : Str} {p p2 pos pos2 : Pos} {jj : Nat}
theorem pm_row (i k : Nat) (hk : k < 4 := by decide) (hN : X.N[i]? = some x := by rfl) (hv : Vis X.env.scope x := by first | exact Or.inl rfl | exact Or.inr (Or.inl rfl) | exact Or.inr (Or.inr rfl)) (hd : (x == ("__debug__" : Str)) = false := by decide)
    (hcd : (x == ("__classdict__" : Str)) = false := by decide) : PM X W (.Subscript (.Name x p) (.Constant (.int (k : Nat)) jj p2) pos) (rowM i k) := by
  refine PE.weaken (pe_ix ix_list (pe_var hN hv hd hcd) pe_int (fun _ _ => rfl)) ?_
  rintro σ H Q ⟨ra, HK, F, e, R, h⟩
  unfold rowM at h
  cases q : e.sl[i]? with
  | none =>
    rw [q] at h
    exact h.elim
  | some s =>
    rw [q] at h
    cases s with
    | val d =>
      cases d with
      | row =>
        obtain ⟨v, e1, r⟩ := R.sl i _ q
        cases r
        obtain ⟨L, h1, h2⟩ := R.row
        refine ⟨.ref ra, e1, ra, [.ref L, .int e.row.at_, .int e.row.big, .int e.row.seed], (k : Nat), ?_⟩
        match k, hk with
        | 0, _ => exact ⟨.ref L, rfl, rfl, .of h1, rfl, h _ F H (Same.refl F) R (rep_ints h2)⟩
        | 1, _ => exact ⟨.int e.row.at_, rfl, rfl, .of h1, rfl, h _ F H (Same.refl F) R (.int _)⟩
        | 2, _ => exact ⟨.int e.row.big, rfl, rfl, .of h1, rfl, h _ F H (Same.refl F) R (.int _)⟩
        | 3, _ => exact ⟨.int e.row.seed, rfl, rfl, .of h1, rfl, h _ F H (Same.refl F) R (.int _)⟩
      | _ => exact h.elim
    | _ => exact h.elim
theorem psm_row (i k : Nat) {e : Expr} {m : M D} (he : PM X W e m) (hk : 0 < k ∧ k < 4 := by decide) (hN : X.N[i]? = some x := by rfl) (hv : Vis X.env.scope x := by first | exact Or.inl rfl | exact Or.inr (Or.inl rfl) | exact Or.inr (Or.inr rfl)) (hd : (x == ("__debug__" : Str)) = false := by decide)
    (hcd : (x == ("__classdict__" : Str)) = false := by decide) (hs : swapsWithSole [.Subscript (.Name x p) (.Constant (.int (k : Nat)) jj p2) pos] e pos2.line X.env = pure false := by rfl) (hw : swappedStores [.Subscript (.Name x p) (.Constant (.int (k : Nat)) jj p2) pos] e X.env = pure none := by rfl)
    (h1 : (assignEach [.Subscript (.Name x p) (.Constant (.int (k : Nat)) jj p2) pos] X.env).map (·.2) = [assign (.Subscript (.Name x p) (.Constant (.int (k : Nat)) jj p2) pos) X.env] := by rfl) : PSM X W (.Assign [.Subscript (.Name x p) (.Constant (.int (k : Nat)) jj p2) pos] e pos2) (rowSet i k m) := by
  refine PS.weaken (ps_asg he (pg_sub (pe_var hN hv hd hcd) pe_int set_list) hs hw h1) ?_
  rintro D' σ H ⟨ra, HK, F, e, R, h⟩
  unfold rowSet at h
  refine stepS R h fun F1 e1 d v H1 s1 R1 r1 q1 => ?_
  cases d with
  | int n =>
    cases r1
    simp only at q1
    cases q : e1.sl[i]? with
    | none =>
      rw [q] at q1
      exact q1.elim
    | some s =>
      rw [q] at q1
      cases s with
      | val d =>
        cases d with
        | row =>
          obtain ⟨v, e2, r⟩ := R1.sl i _ q
          cases r
          obtain ⟨L, h5, h2⟩ := R1.row
          have q2 : okS X.w X.K ra HK F1 D' .nx { e1 with row := e1.row.put k n } := q1
          match k, hk with
          | 1, _ => exact ⟨.ref ra, e2, ra, [.ref L, .int e1.row.at_, .int e1.row.big, .int e1.row.seed], 1, 1, rfl, rfl, h5, rfl, q2 σ F1 _ (Same.refl F1) (R1.rowPut (r' := e1.row.put 1 n) h2)⟩
          | 2, _ => exact ⟨.ref ra, e2, ra, [.ref L, .int e1.row.at_, .int e1.row.big, .int e1.row.seed], 2, 2, rfl, rfl, h5, rfl, q2 σ F1 _ (Same.refl F1) (R1.rowPut (r' := e1.row.put 2 n) h2)⟩
          | 3, _ => exact ⟨.ref ra, e2, ra, [.ref L, .int e1.row.at_, .int e1.row.big, .int e1.row.seed], 3, 3, rfl, rfl, h5, rfl, q2 σ F1 _ (Same.refl F1) (R1.rowPut (r' := e1.row.put 3 n) h2)⟩
        | _ => exact q1.elim
      | _ => exact q1.elim
  | _ => exact q1.elim
end
end Mi

set_option Elab.async false
set_option linter.all false
set_option maxRecDepth 100000
set_option maxHeartbeats 4000000
/-! Mi, part U: what is asked of the snapshot; the law's own def. -/
namespace Mi
open PySem PySem.Spec PyProof.Rows L2
/-! ### constants that are tuples -/
mutual
def repB (K : PySem.W.Frag) : Nat → Value → D → Bool
  | 0, _, _ => false
  | n + 1, u, d => match u, d with
    | .none, .non => true
    | .int i _, .int j => decide (i = j)
    | .ref a, .tup ds => (match K.lookup a with
      | some ⟨.type "tuple", _, .seq its _, _⟩ => decide (its.size ≤ 1000) && repsB K n its.toList ds
      | _ => false)
    | _, _ => false
def repsB (K : PySem.W.Frag) : Nat → List Value → List D → Bool
  | 0, _, _ => false
  | n + 1, us, ds => match us, ds with
    | [], [] => true
    | u :: us, d :: ds => repB K n u d && repsB K n us ds
    | _, _ => false
end
mutual
theorem repB_ok {K : PySem.W.Frag} : ∀ {n : Nat} {u : Value} {d : D}, repB K n u d = true → ∃ v, RelV v u ∧ ∀ w ra F, Rep w K ra F v d
  | 0, u, d, h => by
    unfold repB at h
    cases h
  | n + 1, u, d, h => by
    unfold repB at h
    split at h
    · exact ⟨.non, rfl, fun _ _ _ => .non⟩
    · rename_i i t j
      have e := of_decide_eq_true h
      subst e
      exact ⟨.int i, ⟨t, rfl⟩, fun _ _ _ => .int i⟩
    · rename_i a ds
      split at h
      · rename_i dd its nn sl hl
        simp only [Bool.and_eq_true, decide_eq_true_eq] at h
        obtain ⟨h1, h2⟩ := h
        obtain ⟨vs, r, k⟩ := repsB_ok h2
        refine ⟨.ref a, rfl, fun w ra F => .tup (.inr ⟨_, its, nn, hl, rfl, rfl, Nat.le_trans h1 (by decide), r⟩) (k w ra F)⟩
      · cases h
    · cases h
theorem repsB_ok {K : PySem.W.Frag} : ∀ {n : Nat} {us : List Value} {ds : List D}, repsB K n us ds = true → ∃ vs, Vals vs us ∧ ∀ w ra F, RepA w K ra F vs ds
  | 0, us, ds, h => by
    unfold repsB at h
    cases h
  | n + 1, us, ds, h => by
    unfold repsB at h
    split at h
    · exact ⟨[], .nil, fun _ _ _ => .nil⟩
    · rename_i u us d ds
      simp only [Bool.and_eq_true] at h
      obtain ⟨v, r1, k1⟩ := repB_ok h.1
      obtain ⟨vs, r2, k2⟩ := repsB_ok h.2
      exact ⟨v :: vs, .cons r1 r2, fun w ra F => .cons (k1 w ra F) (k2 w ra F)⟩
    · cases h
end
/-! ### the facts beyond the head's own -/
def cB (K : PySem.W.Frag) (c : Str) : Bool := decide (PySem.W.findIn K (.ref (He.ga K c)) "__getattribute__" = some (some (.builtin "BaseException.__getattribute__"))) && (decide (PySem.W.findIn K (.ref (He.ga K c)) "__getattr__" = some none) && (decide (PySem.W.subIn K (.ref (He.ga K c)) (.type "BaseException") = some true) &&
  (PySem.W.hasDictIn K (He.ga K c) && (decide (PySem.W.findIn K (.ref (He.ga K c)) "__class__" = some (some (.builtin "object.__class__"))) && (decide (PySem.W.mroIn K (He.ga K c) (.type "object") = some true) && decide (PySem.W.kitOne K (.ref (He.ga K c)) (.ref (He.ga K "CutError")) = some true))))))
def oB (K : PySem.W.Frag) : Bool := decide (PySem.W.specialIn K (.builtin "object.__class__") "__get__" = some (some (.builtin "getset_descriptor.__get__"))) && decide (PySem.W.takesIn K (.builtin "object.__class__") = some true)
def rB (K : PySem.W.Frag) (tys : List String) : Bool := decide (PySem.W.findIn K (.ref (He.ga K "Rule")) "__class__" = some (some (.builtin "object.__class__"))) && (decide (PySem.W.mroIn K (He.ga K "Rule") (.type "object") = some true) &&
  (tys.all (fun t => decide (PySem.W.kitOne K (.ref (He.ga K "Rule")) (.type t) = some false)) && (decide (PySem.W.kitOne K (.ref (He.ga K "Rule")) (.ref (He.ga K "Rule")) = some true) &&
    (["NoneType", "bool", "int", "str", "list", "tuple", "dict"] : List String).all fun t => decide (PySem.W.kitOne K (.type t) (.ref (He.ga K "Rule")) = some false))))
def exB (errs : List Str) (tys : List String) (ks : List (Str × D)) (K : PySem.W.Frag) : Bool :=
  (errs.all (cB K) && errs.all fun c => errs.all fun d => decide (PySem.W.exmOne K (.ref (He.ga K c)) (.ref (He.ga K d)) = some (exSub c d))) && (oB K && (rB K tys && ks.all fun p => repB K 5 (.ref (He.ga K p.1)) p.2))
structure Ex (errs : List Str) (tys : List String) (ks : List (Str × D)) (K : PySem.W.Frag) : Prop where
  i : ∀ c ∈ errs, ExcC K (He.ga K c)
  m : ∀ c ∈ errs, ∀ d ∈ errs, PySem.W.exmOne K (.ref (He.ga K c)) (.ref (He.ga K d)) = some (exSub c d)
  k : ∀ c ∈ errs, PySem.W.kitOne K (.ref (He.ga K c)) (.ref (He.ga K "CutError")) = some true
  ri : Cls K (He.ga K "Rule") → RuleIs K
  ki : ∀ t ∈ tys, PySem.W.kitOne K (.ref (He.ga K "Rule")) (.type t) = some false
  kRR : PySem.W.kitOne K (.ref (He.ga K "Rule")) (.ref (He.ga K "Rule")) = some true
  kTR : ∀ t ∈ (["NoneType", "bool", "int", "str", "list", "tuple", "dict"] : List String), PySem.W.kitOne K (.type t) (.ref (He.ga K "Rule")) = some false
  rp : ∀ p ∈ ks, ∀ w ra F, Rep w K ra F (.ref (He.ga K p.1)) p.2
theorem ex_of {errs : List Str} {tys : List String} {ks : List (Str × D)} {K : PySem.W.Frag} (h : exB errs tys ks K = true) : Ex errs tys ks K := by
  unfold exB oB rB at h
  simp only [Bool.and_eq_true, decide_eq_true_eq, List.all_eq_true] at h
  obtain ⟨⟨h1, h2⟩, ⟨h3, h4⟩, ⟨h5, h6, h7, h8, h9⟩, h10⟩ := h
  have cc : ∀ c ∈ errs, _ := fun c hc => by
    have := h1 c hc
    unfold cB at this
    simp only [Bool.and_eq_true, decide_eq_true_eq] at this
    exact this
  refine ⟨fun c hc => ?_, h2, fun c hc => (cc c hc).2.2.2.2.2.2, fun cl => ⟨cl, h5, h3, h4, h6⟩, h7, h8, h9, fun p hp w ra F => ?_⟩
  · obtain ⟨a1, a2, a3, a4, a5, a6, a7⟩ := cc c hc
    exact ⟨a1, a2, a3, a4, a5, h3, h4, a6⟩
  · obtain ⟨v, r, k⟩ := repB_ok (h10 p hp)
    have : v = .ref (He.ga K p.1) := by
      cases v with
      | ref a => cases (show Value.ref (He.ga K p.1) = Value.ref a from r); rfl
      | non => cases r
      | bl b => cases r
      | int i => obtain ⟨t, r⟩ := r; cases r
      | str z => obtain ⟨t, r⟩ := r; cases r
      | _ => first
        | (obtain ⟨t, r⟩ := r; cases r; done)
        | (cases r; done)
    rw [← this]
    exact k w ra F
/-! ### the Hook -/
abbrev AlM : Type := He.AlD × Bool
def obsM (fa : List He.Fa) (fn : List He.DefD) (ex : PySem.W.Frag → Bool) (K : PySem.W.Frag) : AlM := (He.obsD fa fn K, ex K)
def obsMG (n : Nat) (fa : List He.Fa) (fn : List He.DefD) (ex : PySem.W.Frag → Bool) (g : Addr → Option Obj) : AlM := obsM fa fn ex (He.frG g (He.asD g n))
def hookM (n : Nat) (fa : List He.Fa) (fn : List He.DefD) (ex : PySem.W.Frag → Bool) : PySem.W.Hook where
  α := AlM
  obs := fun s => obsMG n fa fn ex s.heap.get?
  val := fun _ => (He.valD fn, true)
  says := fun _ h => ∃ K : PySem.W.Frag, K.In h ∧ He.SaysD fa fn K ∧ ex K = true
  of := fun _ _ e => ⟨_, He.frG_in, congrArg Prod.fst e, congrArg Prod.snd e⟩
  keeps := fun _ _ _ ⟨K, hK, c⟩ k => ⟨K, PySem.W.Frag.In.keeps hK k, c⟩
theorem obsMG_eq {n : Nat} {fa : List He.Fa} {fn : List He.DefD} {ex : PySem.W.Frag → Bool} {g : Addr → Option Obj} {s : Shared} (h : ∀ a, g a = s.heap.get? a) : obsMG n fa fn ex g = (hookM n fa fn ex).obs s := by
  have e : g = s.heap.get? := funext h
  rw [e] <;> rfl
theorem excF_of {K : PySem.W.Frag} {mg : Str → Option Value} {x : Str} (c : (He.Fa.exc x).ok K = true) (g : mg x = some (.ref (He.ga K x))) : ExcF K mg x :=
  let ⟨a, b, d, e⟩ := He.exc_ok c
  ⟨a, b, d, e, g⟩
/-! ### the law's own def -/
section
variable {P : Program} {w : World} {K : PySem.W.Frag} {mg : Str → Option Value} {base : Heap}
/-- _law_draws: the row of a script -/
def spDraws (K : PySem.W.Frag) : Sp := fun vs H Q _ => ∃ (a : Addr) (ns : List Int), vs = [.ref a] ∧ SqL K H a (ns.map V.int) ∧ ns.length ≤ 1000 ∧ ∀ L r, H L = none → (upd H L (.lst (ns.map V.int))) r = none → Q (.ref r) (upd (upd H L (.lst (ns.map V.int))) r (.lst [.ref L, .int 0, .int 0, .int 7]))
def spLaw (K : PySem.W.Frag) (ok : List Int → Prop) : Sp := fun vs H Q _ => ∃ (a : Addr) (ns : List Int), vs = [.ref a] ∧ SqL K H a (ns.map V.int) ∧ ns.length ≤ 1000 ∧ ok ns ∧ ∀ H', Q (.bl true) H'
/-- the row as it begins -/
def row0 (ns : List Int) : RowS := ⟨ns, 0, 0, 7⟩
theorem law_read {m : M Fl} {n : Nat} {ok : List Int → Prop} {vs : List V} {H : Hp} {Q : VK} {E : XK} {N : List Str} (hN : N.length = n + 2) (hm : ∀ ns, ok ns → ∃ e, m ⟨.no :: .val .row :: List.replicate n .no, row0 ns⟩ = .ok (.rt (.bl true)) e) (h : spLaw K ok vs H Q E) :
    tSeq (tAsg (tCall (spDraws K) [] E0 (tCons (tVar 0) tNil)) (gName 1)) (tS w K (fun cls d _ H' => E cls d H') m) { nx := fun _ H' => Q .non H', rt := Q } (L2.start N vs) H := by
  obtain ⟨a, ns, rfl, hS, hl, ho, q⟩ := h
  refine ⟨.ref a, by unfold L2.start; rfl, a, ns, rfl, hS, hl, fun L r hL hr => ?_⟩
  have hne : r ≠ L := fun z => by
    rw [z, upd_same] at hr
    cases hr
  obtain ⟨e, he⟩ := hm ns ho
  have est : (L2.start N [.ref a]).set 1 (some (V.ref r)) = some (.ref a) :: some (.ref r) :: List.replicate n none := by
    unfold L2.start
    rw [hN]
    simp [List.replicate_succ]
  show tS w K _ m _ ((L2.start N [.ref a]).set 1 (some (V.ref r))) _
  rw [est]
  have fL : (upd (fun _ => none : Hp) L (.lst (ns.map V.int))) L = some (.lst (ns.map V.int)) := upd_same
  refine ⟨r, ⟨fun _ => none, fun _ => False, .non⟩, upd (fun _ => none) L (.lst (ns.map V.int)), ⟨.no :: .val .row :: List.replicate n .no, row0 ns⟩, ⟨fun b u z => ?_, (fun b u z => by cases z), by simp, fun i s hi => ?_, fun i j s1 s2 a a' p hij h1 h2 c1 c2 h3 h4 => ?_, ⟨L, upd_same, fL⟩, by rw [upd_ne hne], rfl, fun b hb => hb.elim⟩, by rw [he]; exact fun σ' F' H' s' R' v rv => by cases rv; exact q H'⟩
  · by_cases c : b = L
    · rw [c, upd_same] at z
      cases z
      rw [c, upd_ne hne.symm, upd_same]
    · rw [upd_ne c] at z
      cases z
  · match i, hi with
    | 0, hi => cases hi; trivial
    | 1, hi => cases hi; exact ⟨.ref r, rfl, .row⟩
    | i + 2, hi =>
      have hi' : (List.replicate n Slot.no)[i]? = some s := hi
      rw [List.getElem?_replicate] at hi'
      split at hi'
      · cases hi'
        trivial
      · cases hi'
  · exfalso
    match i, h1 with
    | 0, h1 => cases h1; cases c1
    | 1, h1 => cases h1; cases c1
    | i + 2, h1 =>
      have hi' : (List.replicate n Slot.no)[i]? = some s1 := h1
      rw [List.getElem?_replicate] at hi'
      split at hi'
      · cases hi'
        cases c1
      · cases hi'
end
/-- whatever the clock of the world -/
def CXA (P : Program) : CXT := fun outer H s E u s' => ∃ w, L2.CX P w outer H s E u s'
theorem FnOk.any {P : Program} {w : World} {K : PySem.W.Frag} {mg : Str → Option Value} {base : Heap} {k : Nat} {f : Addr} {fd : FuncData} {ps : List Str} {sp : Sp} (F : FnOk P w K mg base (L2.CX P w) k f fd ps sp) : FnOk P w K mg base (CXA P) k f fd ps sp :=
  ⟨F.len, fun A outer s H args us vs Q E hr e0 hb r h => codeAny_mono (F.run A outer s H args us vs Q E hr e0 hb r h) fun z s' hq => by
    cases z with
    | error e => exact ⟨w, hq⟩
    | ok fl =>
      cases fl with
      | ret v => exact hq
      | next => exact hq
      | brk => exact hq
      | cont => exact hq⟩
theorem CXA.no {P : Program} (H : Hp) (s : Shared) (e : Value) (s' : Shared) (h : CXA P [] H s (fun _ _ _ => False) e s') : False := by
  obtain ⟨w, a, B, H', cls, d, _, _, _, _, _, _, _, z⟩ := h
  exact z
end Mi

set_option Elab.async false
set_option linter.all false
set_option maxRecDepth 100000
set_option maxHeartbeats 4000000
/-! Mi, part V: the mirror's words at a state. -/
namespace Mi
open PySem
/-- keeps the rewriting out of what comes later -/
inductive Tag {α : Type} (a : α) : Type where
  | mk
def Res.bind {α β : Type} (r : Res α) (f : α → M β) (_ : Tag f := .mk) : Res β := match r with
  | .ok a e => f a e
  | .exc x e => .exc x e
  | .err => .err
@[simp] theorem Res.bind_ok {α β : Type} (a : α) (e : Env) (f : α → M β) (t : Tag f) : (Res.ok a e).bind f t = f a e := rfl
@[simp] theorem Res.bind_exc {α β : Type} (x : Exn) (e : Env) (f : α → M β) (t : Tag f) : (Res.exc x e).bind f t = .exc x e := rfl
@[simp] theorem Res.bind_err {α β : Type} (f : α → M β) (t : Tag f) : (Res.err : Res α).bind f t = .err := rfl
def Res.map {α β : Type} (r : Res α) (f : α → β) : Res β := match r with
  | .ok a e => .ok (f a) e
  | .exc x e => .exc x e
  | .err => .err
@[simp] theorem Res.map_ok {α β : Type} (a : α) (e : Env) (f : α → β) : (Res.ok a e).map f = .ok (f a) e := rfl
@[simp] theorem Res.map_exc {α β : Type} (x : Exn) (e : Env) (f : α → β) : (Res.exc x e).map f = .exc x e := rfl
@[simp] theorem Res.map_err {α β : Type} (f : α → β) : (Res.err : Res α).map f = .err := rfl
section
variable {α β : Type} {m : M α} {f : α → M β} {e : Env} {sl : List Slot} {row : RowS}
@[simp ↓] theorem bindM_app (m : M α) (f : α → M β) (e : Env) : bindM m f e = (m e).bind f := rfl
@[simp ↓] theorem pureM_app (a : α) (e : Env) : pureM a e = .ok a e := rfl
@[simp ↓] theorem errM_app (e : Env) : (errM : M α) e = .err := rfl
@[simp] theorem liftO_some (a : α) (e : Env) : liftO (some a) e = .ok a e := rfl
@[simp] theorem liftO_none (e : Env) : (liftO (none : Option α)) e = .err := rfl
/-! reading slots -/
def rdS (s : Option Slot) (i : Nat) (sl : List Slot) (row : RowS) : Res D := match s with
  | some (.val d) => .ok d ⟨sl, row⟩
  | some (.own o) => .ok o.d ⟨sl.set i (.val o.d), row⟩
  | some (.box l) => .ok (boxD l) ⟨sl.set i (.val (boxD l)), row⟩
  | _ => .err
@[simp] theorem rdS_val (d : D) (i : Nat) (sl : List Slot) (row : RowS) : rdS (some (.val d)) i sl row = .ok d ⟨sl, row⟩ := rfl
@[simp] theorem rdS_box (l : List (D × List D)) (i : Nat) (sl : List Slot) (row : RowS) : rdS (some (.box l)) i sl row = .ok (boxD l) ⟨sl.set i (.val (boxD l)), row⟩ := rfl
@[simp] theorem rdS_own (o : OD) (i : Nat) (sl : List Slot) (row : RowS) : rdS (some (.own o)) i sl row = .ok o.d ⟨sl.set i (.val o.d), row⟩ := rfl
@[simp] theorem od_lst (l : List D) : (OD.lst l).d = .lst l := rfl
@[simp] theorem od_dct (l : List (D × D)) : (OD.dct l).d = .dct l := rfl
@[simp ↓] theorem readM_app (i : Nat) (sl : List Slot) (row : RowS) : readM i ⟨sl, row⟩ = rdS sl[i]? i sl row := by
  unfold readM rdS
  cases sl[i]? with
  | none => rfl
  | some s => cases s <;> rfl
/-- the value of a slot -/
def pkS (s : Option Slot) (e : Env) : Res D := match s with
  | some (.val d) => .ok d e
  | some (.own o) => .ok o.d e
  | _ => .err
@[simp] theorem pkS_val (d : D) (e : Env) : pkS (some (.val d)) e = .ok d e := rfl
@[simp] theorem pkS_own (o : OD) (e : Env) : pkS (some (.own o)) e = .ok o.d e := rfl
def rfS (s : Option Slot) (i : Nat) (e : Env) : Res Ref := match s with
  | some (.val _) => .ok (.slot i) e
  | some (.own _) => .ok (.slot i) e
  | some (.box _) => .ok (.slot i) e
  | _ => .err
@[simp] theorem rfS_val (d : D) (i : Nat) (e : Env) : rfS (some (.val d)) i e = .ok (.slot i) e := rfl
@[simp] theorem rfS_box (l : List (D × List D)) (i : Nat) (e : Env) : rfS (some (.box l)) i e = .ok (.slot i) e := rfl
@[simp] theorem rfS_own (o : OD) (i : Nat) (e : Env) : rfS (some (.own o)) i e = .ok (.slot i) e := rfl
@[simp ↓] theorem refM_app (i : Nat) (e : Env) : refM i e = rfS e.sl[i]? i e := by
  unfold refM rfS
  cases e.sl[i]? with
  | none => rfl
  | some s => cases s <;> rfl
@[simp] theorem derefM_val (d : D) (e : Env) : derefM (.val d) e = .ok d e := rfl
@[simp] theorem derefM_slot (i : Nat) (e : Env) : derefM (.slot i) e = pkS e.sl[i]? e := by
  unfold derefM pkS
  try simp only
  all_goals (cases e.sl[i]? with
  | none => rfl
  | some s => cases s <;> rfl)
@[simp ↓] theorem mapM'_app (m : M α) (g : α → β) (e : Env) : mapM' m g e = (m e).map g := by
  unfold mapM' bindM Res.map
  cases m e <;> rfl
/-! operators -/
@[simp ↓] theorem op1M_app (ma : M Ref) (g : D → Option D) (e : Env) : op1M ma g e = (ma e).bind fun x => bindM (derefM x) fun d => liftO (g d) := rfl
@[simp ↓] theorem op1O_app (ma : M Ref) (g : D → Option OD) (e : Env) : op1O ma g e = (ma e).bind fun x => bindM (derefM x) fun d => liftO (g d) := rfl
@[simp ↓] theorem op2M_app (ma mb : M Ref) (g : D → D → Option D) (e : Env) : op2M ma mb g e = (ma e).bind fun x => bindM mb fun y => bindM (derefM x) fun d => bindM (derefM y) fun d' => liftO (g d d') := rfl
@[simp ↓] theorem opLM_app (r : M (List D)) (g : List D → Option D) (e : Env) : opLM r g e = (r e).bind fun l => liftO (g l) := rfl
def tsD (d : D) (e : Env) : Res Bool := match d with
  | .bl b => .ok b e
  | _ => .err
@[simp] theorem tsD_bl (b : Bool) (e : Env) : tsD (.bl b) e = .ok b e := rfl
@[simp ↓] theorem testM_app (m : M D) (e : Env) : testM m e = (m e).bind tsD := by
  unfold testM bindM Res.bind
  cases m e with
  | ok d e => cases d <;> rfl
  | exc x e => rfl
  | err => rfl
@[simp ↓] theorem negM_app (m : M D) (e : Env) : negM m e = (m e).bind fun d => match d with
  | .int i => pureM (.int (-i))
  | _ => errM := rfl
@[simp ↓] theorem partM_app (m : M D) (e : Env) : partM m e = (m e).bind fun d => match d with
  | .int i => pureM (some i)
  | _ => errM := rfl
@[simp ↓] theorem consM_app (m : M D) (r : M (List D)) (e : Env) : consM m r e = (m e).bind fun d => bindM r fun ds => pureM (d :: ds) := rfl
@[simp ↓] theorem starM_app (m : M Ref) (r : M (List D)) (e : Env) : starM m r e = (m e).bind fun x => bindM (derefM x) fun d => match d.items with
  | some xs => bindM r fun ds => pureM (xs ++ ds)
  | none => errM := rfl
@[simp ↓] theorem tupM_app (r : M (List D)) (e : Env) : tupM r e = (r e).bind fun ds => bindM (small ds) fun _ => pureM (.tup ds) := rfl
@[simp ↓] theorem lstM_app (r : M (List D)) (e : Env) : lstM r e = (r e).bind fun ds => bindM (small ds) fun _ => pureM (.lst ds) := rfl
@[simp ↓] theorem giveM_app (m : M OD) (e : Env) : giveM m e = (m e).map OD.d := mapM'_app _ _ _
@[simp ↓] theorem sliceM_app (m : M Ref) (ml mh : M (Option Int)) (e : Env) : sliceM m ml mh e = (m e).bind fun x => bindM ml fun lo => bindM mh fun hi => bindM (derefM x) fun d => liftO (cutF d lo hi) := rfl
def andD (d : D) (n : M D) (e : Env) (_ : Tag n := .mk) : Res D := match d with
  | .bl true => n e
  | .bl false => .ok (.bl false) e
  | _ => .err
def orD (d : D) (n : M D) (e : Env) (_ : Tag n := .mk) : Res D := match d with
  | .bl true => .ok (.bl true) e
  | .bl false => n e
  | _ => .err
def notD (d : D) (e : Env) : Res D := match d with
  | .bl b => .ok (.bl (!b)) e
  | _ => .err
@[simp] theorem andD_true (n : M D) (e : Env) (t : Tag n) : andD (.bl true) n e t = n e := rfl
@[simp] theorem andD_false (n : M D) (e : Env) (t : Tag n) : andD (.bl false) n e t = .ok (.bl false) e := rfl
@[simp] theorem orD_true (n : M D) (e : Env) (t : Tag n) : orD (.bl true) n e t = .ok (.bl true) e := rfl
@[simp] theorem orD_false (n : M D) (e : Env) (t : Tag n) : orD (.bl false) n e t = n e := rfl
@[simp] theorem notD_bl (b : Bool) (e : Env) : notD (.bl b) e = .ok (.bl (!b)) e := rfl
@[simp ↓] theorem andV_app (m n : M D) (e : Env) : andV m n e = (m e).bind fun d e => andD d n e := by
  unfold andV bindM Res.bind
  cases m e with
  | ok d e1 => (cases d with
    | bl b => cases b <;> rfl
    | _ => rfl)
  | exc x e1 => rfl
  | err => rfl
@[simp ↓] theorem orV_app (m n : M D) (e : Env) : orV m n e = (m e).bind fun d e => orD d n e := by
  unfold orV bindM Res.bind
  cases m e with
  | ok d e1 => (cases d with
    | bl b => cases b <;> rfl
    | _ => rfl)
  | exc x e1 => rfl
  | err => rfl
@[simp ↓] theorem notV_app (m : M D) (e : Env) : notV m e = (m e).bind notD := by
  unfold notV bindM Res.bind
  cases m e with
  | ok d e1 => cases d <;> rfl
  | exc x e1 => rfl
  | err => rfl
def iteR (c : Bool) (m n : M α) (e : Env) (_ : Tag m := .mk) (_ : Tag n := .mk) : Res α := if c = true then m e else n e
@[simp] theorem iteR_true (m n : M α) (e : Env) (t : Tag m) (u : Tag n) : iteR true m n e t u = m e := rfl
@[simp] theorem iteR_false (m n : M α) (e : Env) (t : Tag m) (u : Tag n) : iteR false m n e t u = n e := rfl
@[simp ↓] theorem iteM_app (t : M Bool) (m n : M α) (e : Env) : iteM t m n e = (t e).bind fun c e => iteR c m n e := by
  unfold iteM bindM Res.bind
  cases t e with
  | ok d e1 => cases d <;> rfl
  | exc x e1 => rfl
  | err => rfl
@[simp ↓] theorem andT_app (m n : M Bool) (e : Env) : andT m n e = (m e).bind fun c e => iteR c n (pureM false) e := by
  unfold andT bindM Res.bind
  cases m e with
  | ok d e1 => cases d <;> rfl
  | exc x e1 => rfl
  | err => rfl
@[simp ↓] theorem orT_app (m n : M Bool) (e : Env) : orT m n e = (m e).bind fun c e => iteR c (pureM true) n e := by
  unfold orT bindM Res.bind
  cases m e with
  | ok d e1 => cases d <;> rfl
  | exc x e1 => rfl
  | err => rfl
@[simp ↓] theorem notT_app (m : M Bool) (e : Env) : notT m e = (m e).map (!·) := by
  unfold notT bindM Res.map
  cases m e <;> rfl
def chD (o o' : Int → Int → Bool) (x y : D) (k : M D) (e : Env) (_ : Tag k := .mk) : Res D := match x, y with
  | .int i, .int j => if o i j = true then (k e).bind (fun z => match z with
    | .int l => pureM (.bl (o' j l))
    | _ => errM) else .ok (.bl false) e
  | _, _ => .err
@[simp ↓] theorem chainM_app (o o' : Int → Int → Bool) (m n k : M D) (e : Env) : chainM o o' m n k e = (m e).bind fun x => bindM n fun y e => chD o o' x y k e := by
  unfold chainM bindM Res.bind
  cases m e with
  | ok d e1 =>
    simp only
    cases n e1 with
    | ok d' e2 =>
      cases d <;> cases d' <;> try rfl
      rename_i i j
      show (if o i j = true then _ else _ : M D) e2 = chD o o' _ _ k e2
      unfold chD
      by_cases c : o i j = true
      · simp only [if_pos c]
        rfl
      · simp only [if_neg c]
        rfl
    | exc x e2 => rfl
    | err => rfl
  | exc x e1 => rfl
  | err => rfl
/-! statements -/
def seqR (fl : Fl) (n : M Fl) (e : Env) (_ : Tag n := .mk) : Res Fl := match fl with
  | .nx => n e
  | fl => .ok fl e
@[simp] theorem seqR_nx (n : M Fl) (e : Env) (t : Tag n) : seqR .nx n e t = n e := rfl
@[simp] theorem seqR_rt (d : D) (n : M Fl) (e : Env) (t : Tag n) : seqR (.rt d) n e t = .ok (.rt d) e := rfl
@[simp] theorem seqR_bk (n : M Fl) (e : Env) (t : Tag n) : seqR .bk n e t = .ok .bk e := rfl
@[simp] theorem seqR_ct (n : M Fl) (e : Env) (t : Tag n) : seqR .ct n e t = .ok .ct e := rfl
@[simp ↓] theorem seqM_app (m n : M Fl) (e : Env) : seqM m n e = (m e).bind fun fl e => seqR fl n e := by
  unfold seqM bindM Res.bind
  cases m e with
  | ok d e1 => cases d <;> rfl
  | exc x e1 => rfl
  | err => rfl
@[simp ↓] theorem nxM_app (e : Env) : nxM e = .ok .nx e := rfl
@[simp ↓] theorem retM_app (m : M D) (e : Env) : retM m e = (m e).map Fl.rt := by
  unfold retM bindM Res.map
  cases m e <;> rfl
@[simp ↓] theorem dropM_app (m : M α) (e : Env) : dropM m e = (m e).map fun _ => Fl.nx := by
  unfold dropM bindM Res.map
  cases m e <;> rfl
@[simp ↓] theorem raiseM_app (c : Str) (e : Env) : raiseM c e = .exc ⟨c, []⟩ e := rfl
def setR (i : Nat) (s : Slot) (sl : List Slot) (row : RowS) : Res Unit := if i < sl.length then .ok () ⟨sl.set i s, row⟩ else .err
@[simp ↓] theorem setM_app (i : Nat) (s : Slot) (sl : List Slot) (row : RowS) : setM i s ⟨sl, row⟩ = setR i s sl row := rfl
@[simp ↓] theorem asgM_app (i : Nat) (m : M D) (e : Env) : asgM i m e = (m e).bind fun d => bindM (setM i (.val d)) fun _ => pureM .nx := rfl
@[simp ↓] theorem asgO_app (i : Nat) (m : M OD) (e : Env) : asgO i m e = (m e).bind fun d => bindM (setM i (.own d)) fun _ => pureM .nx := rfl
@[simp ↓] theorem asgG_app (m : M D) (g : D → M Unit) (e : Env) : asgG m g e = (m e).bind fun d => bindM (g d) fun _ => pureM .nx := rfl
@[simp ↓] theorem gN_app (i : Nat) (d : D) (e : Env) : gN i d e = setM i (.val d) e := rfl
@[simp] theorem gsNil_nil (e : Env) : gsNil [] e = .ok () e := rfl
@[simp] theorem gsCons_cons (g : D → M Unit) (gs : List D → M Unit) (d : D) (ds : List D) (e : Env) : gsCons g gs (d :: ds) e = (g d e).bind fun _ => gs ds := rfl
@[simp] theorem gTup2 (gs : List D → M Unit) (a b : D) (e : Env) : gTupM 2 gs (.tup [a, b]) e = gs [a, b] e := rfl
@[simp] theorem gTup3 (gs : List D → M Unit) (a b c : D) (e : Env) : gTupM 3 gs (.tup [a, b, c]) e = gs [a, b, c] e := rfl
@[simp] theorem gTup4 (gs : List D → M Unit) (a b c d : D) (e : Env) : gTupM 4 gs (.tup [a, b, c, d]) e = gs [a, b, c, d] e := rfl
@[simp ↓] theorem consV_app (m : M D) (r : M (List Slot)) (e : Env) : consV m r e = (m e).bind fun d => bindM r fun ss => pureM (.val d :: ss) := rfl
@[simp ↓] theorem consO_app (m : M OD) (r : M (List Slot)) (e : Env) : consO m r e = (m e).bind fun d => bindM r fun ss => pureM (.own d :: ss) := rfl
@[simp ↓] theorem parM_app (is : List Nat) (r : M (List Slot)) (e : Env) : parM is r e = (r e).bind fun ss => bindM (setAll is ss) fun _ => pureM .nx := rfl
@[simp] theorem setAll_nil (e : Env) : setAll [] [] e = .ok () e := rfl
@[simp] theorem setAll_cons' (i : Nat) (is : List Nat) (s : Slot) (ss : List Slot) (e : Env) : setAll (i :: is) (s :: ss) e = (setAll is ss e).bind fun _ => setM i s := rfl
@[simp ↓] theorem valM_app (i : Nat) (e : Env) : valM i e = (match e.sl[i]? with
  | some (.val d) => .ok d e
  | _ => .err) := rfl
@[simp ↓] theorem augM_app (i : Nat) (m : M D) (g : D → D → Option D) (e : Env) : augM i m g e = (valM i e).bind fun x => bindM m fun d => bindM (liftO (g x d)) fun z => bindM (setM i (.val z)) fun _ => pureM .nx := rfl
def olS (s : Option Slot) (e : Env) : Res (List D) := match s with
  | some (.own (.lst l)) => .ok l e
  | _ => .err
@[simp] theorem olS_own (l : List D) (e : Env) : olS (some (.own (.lst l))) e = .ok l e := rfl
@[simp ↓] theorem ownL_app (i : Nat) (e : Env) : ownL i e = olS e.sl[i]? e := by
  unfold ownL olS
  cases e.sl[i]? with
  | none => rfl
  | some s => cases s <;> first | rfl | (rename_i o; cases o <;> rfl)
@[simp ↓] theorem appM_app (i : Nat) (m : M D) (e : Env) : appM i m e = (ownL i e).bind fun _ => bindM m fun d => bindM (ownL i) fun l => bindM (small (l ++ [d])) fun _ => bindM (setM i (.own (.lst (l ++ [d])))) fun _ => pureM .nx := rfl
@[simp ↓] theorem forL_app (mi : M (List D)) (g : D → M Unit) (b : M Fl) (e : Env) : forL mi g b e = (mi e).bind fun ds => forM' g b ds := rfl
@[simp] theorem forM'_nil (g : D → M Unit) (b : M Fl) (e : Env) : forM' g b [] e = .ok .nx e := rfl
def forR (fl : Fl) (n : M Fl) (e : Env) (_ : Tag n := .mk) : Res Fl := match fl with
  | .nx => n e
  | .ct => n e
  | .bk => .ok .nx e
  | .rt d => .ok (.rt d) e
@[simp] theorem forR_nx (n : M Fl) (e : Env) (t : Tag n) : forR .nx n e t = n e := rfl
@[simp] theorem forR_ct (n : M Fl) (e : Env) (t : Tag n) : forR .ct n e t = n e := rfl
@[simp] theorem forR_bk (n : M Fl) (e : Env) (t : Tag n) : forR .bk n e t = .ok .nx e := rfl
@[simp] theorem forR_rt (d : D) (n : M Fl) (e : Env) (t : Tag n) : forR (.rt d) n e t = .ok (.rt d) e := rfl
@[simp ↓] theorem walkM_app (m : M D) (e : Env) : walkM m e = (m e).bind fun d => liftO (itemsD d) := rfl
@[simp ↓] theorem walkD_app (m : M D) (g : D → Option (List D)) (e : Env) : walkD m g e = (m e).bind fun d => liftO (g d) := rfl
@[simp ↓] theorem listM_app (m : M (List D)) (g : List D → Option (List D)) (e : Env) : listM m g e = (m e).bind fun d => liftO (g d) := rfl
@[simp ↓] theorem lstRgM_app (m n : M D) (e : Env) : lstRgM m n e = (m e).bind fun x => bindM n fun y => liftO ((rg2 x y).map OD.lst) := rfl
@[simp ↓] theorem lcM_app (mi : M (List D)) (g : D → M Unit) (t : M Bool) (el : M D) (vs : List Nat) (e : Env) : lcM mi g t el vs e = (mi e).bind (lcRun g t el vs) := rfl
@[simp] theorem lcGo_nil (g : D → M Unit) (t : M Bool) (el : M D) (vs : List Nat) (acc : List D) (e : Env) : lcGo g t el vs [] acc e = .ok acc e := rfl
/-! calls -/
def clR (r : FRes) (e : Env) : Res D := match r with
  | .ret d row' => .ok d { e with row := row' }
  | .exc x row' => .exc x { e with row := row' }
  | .err => .err
@[simp] theorem clR_ret (d : D) (r : RowS) (e : Env) : clR (.ret d r) e = .ok d { e with row := r } := rfl
@[simp] theorem clR_exc (d : Exn) (r : RowS) (e : Env) : clR (.exc d r) e = .exc d { e with row := r } := rfl
@[simp ↓] theorem callM_app (f : FnM) (r : M (List D)) (e : Env) : callM f r e = (r e).bind fun ds e => clR (f ds e.row) e := by
  unfold callM bindM Res.bind
  cases r e with
  | ok d e1 =>
    show (match f d e1.row with | .ret d row' => Res.ok d { e1 with row := row' } | .exc x row' => Res.exc x { e1 with row := row' } | .err => Res.err) = clR (f d e1.row) e1
    cases f d e1.row <;> rfl
  | exc x e1 => rfl
  | err => rfl
def fnR (r : Res Fl) : FRes := match r with
  | .ok (.rt d) e => .ret d e.row
  | .ok .nx e => .ret .non e.row
  | .ok _ _ => .err
  | .exc x e => .exc x e.row
  | .err => .err
@[simp] theorem fnR_rt (d : D) (e : Env) : fnR (.ok (.rt d) e) = .ret d e.row := rfl
@[simp] theorem fnR_nx (e : Env) : fnR (.ok .nx e) = .ret .non e.row := rfl
@[simp] theorem fnR_exc (x : Exn) (e : Env) : fnR (.exc x e) = .exc x e.row := rfl
theorem fnM_app (k : Nat) (b : M Fl) (ds : List D) (row : RowS) : fnM k b ds row = fnR (b ⟨ds.map Slot.val ++ List.replicate k .no, row⟩) := by
  unfold fnM fnR
  cases b ⟨ds.map Slot.val ++ List.replicate k .no, row⟩ with
  | ok fl e => cases fl <;> rfl
  | exc x e => rfl
  | err => rfl
end
/-! isinstance -/
section
@[simp] theorem isi_int_int (i : Int) : isiF "int" (.int i) = some (.bl true) := by rfl
@[simp] theorem isi_int_bl (i : Bool) : isiF "int" (.bl i) = some (.bl true) := by rfl
@[simp] theorem isi_int_non : isiF "int" .non = some (.bl false) := by rfl
@[simp] theorem isi_int_str (i : Str) : isiF "int" (.str i) = some (.bl false) := by rfl
@[simp] theorem isi_int_tup (i : List D) : isiF "int" (.tup i) = some (.bl false) := by rfl
@[simp] theorem isi_int_lst (i : List D) : isiF "int" (.lst i) = some (.bl false) := by rfl
@[simp] theorem isi_int_dct (i : List (D × D)) : isiF "int" (.dct i) = some (.bl false) := by rfl
@[simp] theorem isi_int_obj (i : List D) : isiF "int" (.obj i) = some (.bl false) := by rfl
@[simp] theorem isi_bool_int (i : Int) : isiF "bool" (.int i) = some (.bl false) := by rfl
@[simp] theorem isi_bool_bl (i : Bool) : isiF "bool" (.bl i) = some (.bl true) := by rfl
@[simp] theorem isi_bool_non : isiF "bool" .non = some (.bl false) := by rfl
@[simp] theorem isi_tuple_int (i : Int) : isiF "tuple" (.int i) = some (.bl false) := by rfl
@[simp] theorem isi_tuple_bl (i : Bool) : isiF "tuple" (.bl i) = some (.bl false) := by rfl
@[simp] theorem isi_tuple_non : isiF "tuple" .non = some (.bl false) := by rfl
@[simp] theorem isi_tuple_str (i : Str) : isiF "tuple" (.str i) = some (.bl false) := by rfl
@[simp] theorem isi_tuple_tup (i : List D) : isiF "tuple" (.tup i) = some (.bl true) := by rfl
@[simp] theorem isi_tuple_lst (i : List D) : isiF "tuple" (.lst i) = some (.bl false) := by rfl
@[simp] theorem isi_tuple_dct (i : List (D × D)) : isiF "tuple" (.dct i) = some (.bl false) := by rfl
@[simp] theorem isi_tuple_obj (i : List D) : isiF "tuple" (.obj i) = some (.bl false) := by rfl
end
end Mi

set_option Elab.async false
set_option linter.all false
set_option maxRecDepth 100000
set_option maxHeartbeats 1000000
/-! Mirrors, part W: try with several clauses, each `as e`. -/
namespace Mi
open PySem PySem.Spec PyProof.Rows L2
/-- a clause of a try, told by its class, its name's slot and its suite's wish -/
abbrev Clause : Type := Value × Nat × (Addr → Value → Option Addr → TS)
inductive AsOk (X : Cx) : List ExceptHandler → List Clause → Prop
  | non : AsOk X [] []
  | more {x n : Str} {c : Value} {i : Nat} {ts : Addr → Value → Option Addr → TS} {st : Stmt} {sts : List Stmt} {p q : Pos} {hds : List ExceptHandler} {l : List Clause} (named : Names X x c) (at_ : X.N[i]? = some n) (own : X.env.kindOf n = some .local)
      (does : ∀ (ea : Addr) (ob : Obj) (cl : Value) (dt : Option Addr) (pl : List (Addr × Obj)), Zc cl dt ob → (∃ fs, ob.data = .fields fs) → PSs (X.suite ea ((ea, ob) :: pl)) (st :: sts) (ts ea cl dt)) (rest : AsOk X hds l) :
      AsOk X (.ExceptHandler (some (.Name x p)) (some n) (st :: sts) q :: hds) ((c, i, ts) :: l)
/-! the mirror's side -/
/-- a clause's wish, by its mirror -/
def clT (w : World) (K : PySem.W.Frag) (cs : List Str) (i : Nat) (m : M Fl) : Addr → Value → Option Addr → TS := fun a cl d D' σ H => ∃ c' ∈ cs, cl = .ref (He.ga K c') ∧ d = none ∧ σ[i]? = some (some (.ref a)) ∧ tS w K WN m D' σ H
def clL (w : World) (K : PySem.W.Frag) (cs : List Str) (hs : List (Str × Nat × M Fl)) : List Clause := hs.map fun h => (.ref (He.ga K h.1), h.2.1, clT w K cs h.2.1 h.2.2)
section
variable {X : Cx} {W : WX} {cs : List Str}
/-- clauses `except c as n: y = A if isinstance(n, CutError) else B`, with their mirrors -/
inductive HdM (X : Cx) (cs : List Str) : List ExceptHandler → List (Str × Nat × M Fl) → Prop
  | nil : HdM X cs [] []
  | cons {hds : List ExceptHandler} {hs : List (Str × Nat × M Fl)} {i j : Nat} {c y n : Str} {py np p p2 p3 p4 p5 pos1 pos' : Pos} {A B : Expr} {mA : M D} (hcc : c ∈ cs)
    (hA : ∀ (a : Addr) (oe : Obj) (pn : List (Addr × Obj)), PM (X.suite a ((a, oe) :: pn)) WN A mA) (hB : ∀ (a : Addr) (oe : Obj) (pn : List (Addr × Obj)), PM (X.suite a ((a, oe) :: pn)) WN B errM) (hm : X.mg "isinstance" = none) (r : HdM X cs hds hs) (hi : X.N[i]? = some n := by rfl) (hj : X.N[j]? = some y := by rfl) (hij : i ≠ j := by decide)
    (hln : X.env.kindOf n = some .local := by rfl) (hvi : Vis X.env.scope n := by first | exact Or.inl rfl | exact Or.inr (Or.inl rfl) | exact Or.inr (Or.inr rfl))
    (hdn : (n == ("__debug__" : Str)) = false := by decide) (hcn : (n == ("__classdict__" : Str)) = false := by decide) (hdc : (c == ("__debug__" : Str)) = false := by decide) (hgx : Gl X c := by rfl)
    (hyl : Loc X.env.scope y := by first | exact Or.inl rfl | exact Or.inr rfl) (hgi : Gl X "isinstance" := by rfl) (hgc : Gl X "CutError" := by rfl) (hse : starEach [.Name n p2, .Name "CutError" p3] X.env = (false, eval (.Name n p2) X.env) :: starEach [.Name "CutError" p3] X.env := by rfl)
    (hsw : swapsWith (.IfExp (.Call (.Name "isinstance" p) [.Name n p2, .Name "CutError" p3] [] p4) A B p5) (some (.Name y py)) pos1.line X.env = pure false := by rfl) (hfn : X.fn y = true ∨ X.env.scope.names.lookup y = some .local := by first | exact .inl rfl | exact .inr rfl | assumption) :
    HdM X cs (.ExceptHandler (some (.Name c np)) (some n) [.Assign [.Name y py] (.IfExp (.Call (.Name "isinstance" p) [.Name n p2, .Name "CutError" p3] [] p4) A B p5) pos1] pos' :: hds) ((c, i, asgM j mA) :: hs)
theorem HdM.mem {hds : List ExceptHandler} {hs : List (Str × Nat × M Fl)} (h : HdM X cs hds hs) : ∀ k ∈ hs, k.1 ∈ cs := by
  induction h with
  | nil => exact fun _ z => by cases z
  | cons hcc hA hB hm r hi hj hij hln hvi hdn hcn hdc hgx hyl hgi hgc hse hsw hfn ih =>
    intro k hk
    rcases List.mem_cons.mp hk with z | z
    · rw [z]
      exact hcc
    · exact ih k z
theorem HdM.ok {hds : List ExceptHandler} {hs : List (Str × Nat × M Fl)} (T : ExTab X.K X.mg cs) (hN : X.N.Nodup) (h : HdM X cs hds hs) : AsOk X hds (clL X.w X.K cs hs) := by
  induction h with
  | nil => exact .non
  | cons hcc hA hB hm r hi hj hij hln hvi hdn hcn hdc hgx hyl hgi hgc hse hsw hfn ih =>
    refine .more ⟨hgx, hdc, .inl (T.g _ hcc)⟩ hi hln (fun a oe cl d pn hz hfd => ⟨fun pins s σ H D' I h => ?_⟩) ih
    obtain ⟨c', hc', rfl, rfl, e1, h⟩ := h
    exact (suite_is T hc' hz hfd (hA a oe pn) (hB a oe pn) hm hN hi hj hvi hdn hcn hyl hgi hgc hse hsw hfn).run pins s σ H D' I ⟨e1, h⟩
end
end Mi

set_option Elab.async false
set_option linter.all false
set_option maxRecDepth 100000
set_option maxHeartbeats 4000000
/-! Mirrors, part X: dicts of one's own: {}, {k: v}, d[k] = v, d.get(k, x). -/
namespace Mi
open PySem PySem.Spec PyProof.Rows L2
/-! ### {} -/
def emptyD : Obj := { cls := .type "dict", data := .dict #[] }
def tDNewO : TE := fun _ H Q => ∀ p, H p = none → (p == sysModules) = false → Q (.ref p) (upd H p (objO p emptyD))
theorem big_ne {X : Cx} {pins : List (Addr × Obj)} {σ : L2.St} {H : Hp} {s : Shared} (I : Inv X pins σ H s) : (s.heap.objs.size == sysModules) = false := beq_eq_false_iff_ne.mpr (Ne.symm (Nat.ne_of_lt I.big))
theorem laidO {X : Cx} {pins : List (Addr × Obj)} {σ : L2.St} {H : Hp} {s : Shared} (I : Inv X pins σ H s) : Inv X pins σ (upd H s.heap.objs.size (objO s.heap.objs.size emptyD)) { s with heap := s.heap.push emptyD } :=
  I.laid (t' := s.toks) (o := objO s.heap.objs.size emptyD) (fun _ _ q => Heap.get?_push_of_some _ q) (Nat.le_refl _) (obj_ok (Heap.get?_push_size _ rfl))
theorem pe_dnewO {X : Cx} {pos : Pos} : PE X (.Dict [] [] pos) tDNewO := ⟨fun pins s σ H Q I h =>
  wpAny_Dict_empty ⟨.ref s.heap.objs.size, _, laidO I, rfl, h _ (I.hok.fresh (Nat.le_refl _)) (big_ne I)⟩⟩
theorem df_empty {w : World} {a : Addr} (h : (a == sysModules) = false) : DF w a [] emptyD := ⟨h, Nat.zero_le _, List.nodup_nil, .inl (fun _ z => by cases z), ⟨rfl, rfl, rfl⟩, #[], 0, rfl, .nil⟩
theorem pmo_dict0 {X : Cx} {W : WX} {pos : Pos} : PMO X W (.Dict [] [] pos) (pureM (.dct [])) := by
  refine PE.weaken pe_dnewO ?_
  rintro σ H Q ⟨ra, HK, F, e, R, h⟩
  intro p hp hs
  obtain ⟨f1, f2, f3, f4⟩ := fresh_own R hp (o := .dct []) (.inr trivial)
  exact h _ F _ (Same.refl F) (R.grow hp _) ⟨p, rfl, ⟨[], ⟨_, upd_same, df_empty hs⟩, .nil⟩, f1, f2, f3, f4⟩
/-! ### d[k] = v -/
section
variable {X : Cx} {pins : List (Addr × Obj)} {σ : L2.St} {H F : Hp} {s : Shared} {ra a : Addr} {es : List (NestedKey × V × V)} {kvs : List (D × D)} {dk : D} {k : NestedKey} {kv vv : V} {u r : Value} {A : Around} {E : Value → Shared → Prop} {Q : Unit → Shared → Prop}
/-- what stands where a dict has been changed -/
theorem put_fin {h' : Heap} {t' : Nat} {o : Obj} (I : Inv X pins σ H s) (at_ : DictAt X.w H a es) (hs : Heap.SameBut a s.heap h') (ho : h'.get? a = some o) : Inv X pins σ (upd H a (objO a o)) { s with heap := h', toks := t' } := by
  obtain ⟨o0, e0, _⟩ := at_
  exact d_write I (by rw [e0]; exact True.intro) hs ⟨_, ho⟩ (obj_ok ho)
theorem d_setN (hu : A.units + 64 < cLine) (I : Inv X pins σ H s) (fh : Same F H) (at_ : DictAt X.w H a es) (re : RepE X.w X.K ra F es kvs) (rd : Rep X.w X.K ra F kv dk) (hk : kindOk kvs dk = true) (ek : dk.hk = some k) (hz : es.length < sizeLine) (rk : RelV kv u) (rv : RelV vv r)
    (h : ∀ s' o, DF X.w a (eput es k kv vv) o → Inv X pins σ (upd H a (objO a o)) s' → Q () s') : wpAny (model X.prog X.w) A (setItem (.ref a) u r) Q E s := by
  obtain ⟨_, _, nd, un, _⟩ := inv_dictP I at_
  have hu8 : A.in1.units + 8 < cLine := by
    have : A.in1.units = A.units + 1 := rfl
    omega
  have hl : (eput es k kv vv).length ≤ sizeLine := by
    have := eput_len es k kv vv
    omega
  cases dk with
  | tup l =>
    obtain ⟨xs, p, hm, hd, _⟩ := inv_dictRef I fh at_ re (uni_refs re un hk)
    cases rd with
    | @tup b vs ds hq hr =>
      cases rk
      have kk := hk_of ek
      have isk : (nestedKind X.prog X.w).is s.heap k b := ⟨Rep.nested I fh (.tup l) (.tup hq hr) kk.1 rfl, kk.2⟩
      refine wpAny_setItem_heap (hsz := by rw [← Paired.length p]; omega) hu8 isk hm fun h' dd hs => ?_
      obtain ⟨o, ho, df⟩ := df_refs (ER.put (k := k) (a := b) rv p) dd hd hl (eput_keys es k _ vv nd)
      exact h _ o df (put_fin I at_ hs ho)
  | int i =>
    obtain ⟨xs, p, hm, hd, _⟩ := inv_dictInt I at_ re (uni_ints re un hk)
    cases rd
    obtain ⟨t, rfl⟩ := rk
    have ei : k = .num i := by
      have := (hk_of ek).1
      simp [D.key] at this
      exact this.symm
    subst ei
    refine wpAny_setItem_pairs (knd := PySem.intKind X.prog X.w) (k := i) (hsz := by rw [← Paired.length p]; omega) (by simp [PySem.intKind, Value.isInt]) hm fun h' dd hs => ?_
    obtain ⟨o, ho, df⟩ := df_ints (IR.put (k := i) rv p) dd hd hl (eput_keys es _ _ vv nd)
    exact h _ o df (put_fin I at_ hs ho)
  | _ => cases kvs with
    | nil => cases hk
    | cons p kvs => (obtain ⟨p1, p2⟩ := p; cases p1 <;> cases hk)
theorem d_dictSetN (hu : A.units + 64 < cLine) (I : Inv X pins σ H s) (fh : Same F H) (at_ : DictAt X.w H a es) (re : RepE X.w X.K ra F es kvs) (rd : Rep X.w X.K ra F kv dk) (hk : kindOk kvs dk = true) (ek : dk.hk = some k) (hz : es.length < sizeLine) (rk : RelV kv u) (rv : RelV vv r)
    (h : ∀ s' o, DF X.w a (eput es k kv vv) o → Inv X pins σ (upd H a (objO a o)) s' → Q () s') : wpAny (model X.prog X.w) A (dictSet a u r) Q E s := by
  obtain ⟨_, _, nd, un, _⟩ := inv_dictP I at_
  have hu8 : A.units + 8 < cLine := by omega
  have hl : (eput es k kv vv).length ≤ sizeLine := by
    have := eput_len es k kv vv
    omega
  cases dk with
  | tup l =>
    obtain ⟨xs, p, hm, hd, _⟩ := inv_dictRef I fh at_ re (uni_refs re un hk)
    cases rd with
    | @tup b vs ds hq hr =>
      cases rk
      have kk := hk_of ek
      have isk : (nestedKind X.prog X.w).is s.heap k b := ⟨Rep.nested I fh (.tup l) (.tup hq hr) kk.1 rfl, kk.2⟩
      refine wpAny_dictSet_heap (hsz := by rw [← Paired.length p]; omega) hu8 isk hm fun h' dd hs => ?_
      obtain ⟨o, ho, df⟩ := df_refs (ER.put (k := k) (a := b) rv p) dd hd hl (eput_keys es k _ vv nd)
      exact h _ o df (put_fin I at_ hs ho)
  | int i =>
    obtain ⟨xs, p, hm, hd, _⟩ := inv_dictInt I at_ re (uni_ints re un hk)
    cases rd
    obtain ⟨t, rfl⟩ := rk
    have ei : k = .num i := by
      have := (hk_of ek).1
      simp [D.key] at this
      exact this.symm
    subst ei
    refine wpAny_dictSet_pairs (knd := PySem.intKind X.prog X.w) (k := i) (hsz := by rw [← Paired.length p]; omega) (by simp [PySem.intKind, Value.isInt]) hm fun h' dd hs => ?_
    obtain ⟨o, ho, df⟩ := df_ints (IR.put (k := i) rv p) dd hd hl (eput_keys es _ _ vv nd)
    exact h _ o df (put_fin I at_ hs ho)
  | _ => cases kvs with
    | nil => cases hk
    | cons p kvs => (obtain ⟨p1, p2⟩ := p; cases p1 <;> cases hk)
end
def sPutN (w : World) (K : PySem.W.Frag) (td ty tv : TE) : TS := fun D σ H => tv σ H fun v H1 => td σ H1 fun x H2 => ty σ H2 fun y H3 => ∃ ra F a es kvs dk k, DAt w K ra F H3 x a es kvs ∧ Rep w K ra F y dk ∧ kindOk kvs dk = true ∧ dk.hk = some k ∧ es.length < sizeLine ∧
  ∀ o, DF w a (eput es k y v) o → D.nx σ (upd H3 a (objO a o))
theorem ps_putN {X : Cx} {o i value : Expr} {pos' pos : Pos} {td ty tv : TE} (hu : X.A.units + 64 < cLine) (ho : PE X o td) (hi : PE X i ty) (hv : PE X value tv) (hs : swapsWith value (some (.Subscript o i pos')) pos.line X.env = pure false) :
    PS X (.Assign [.Subscript o i pos'] value pos) (sPutN X.w X.K td ty tv) := by
  refine ⟨fun pins s σ H D I h => ?_⟩
  refine wpAny_Assign_Subscript (thn (hv.run pins s σ H _ I h) fun r s1 ⟨v, H1, I1, rv, q1⟩ => thn (ho.run pins s1 σ H1 _ I1 q1) fun u s2 ⟨x, H2, I2, rx, q2⟩ => thn (hi.run pins s2 σ H2 _ I2 q2) fun iv s3 ⟨y, H3, I3, ry, q3⟩ => ?_) hs
  obtain ⟨ra, F, a, es, kvs, dk, k, ⟨ex, fh, at_, re⟩, rd, hk, ek, hz, nx⟩ := q3
  subst ex
  obtain rfl : u = Value.ref a := rx
  exact d_setN hu I3 fh at_ re rd hk ek hz ry rv fun s4 o df I4 => ⟨σ, _, I4, nx o df⟩
/-- the name is a dict of one's own -/
def ownD (i : Nat) : M (List (D × D)) := fun e => match e.sl[i]? with
  | some (.own (.dct l)) => .ok l e
  | _ => .err
theorem wp_ownD {β : Type} {i : Nat} {g : List (D × D) → M β} {e : Env} {A : β → Env → Prop} {B : Exn → Env → Prop} (h : (bindM (ownD i) g e).wp A B) : ∃ l, e.sl[i]? = some (.own (.dct l)) ∧ (g l e).wp A B := by
  unfold bindM ownD at h
  cases q : e.sl[i]? with
  | none =>
    simp only [q] at h
    exact h.elim
  | some s =>
    cases s with
    | own o =>
      cases o with
      | dct l =>
        simp only [q] at h
        exact ⟨l, rfl, h⟩
      | lst l =>
        simp only [q] at h
        exact h.elim
    | _ =>
      simp only [q] at h
      exact h.elim
def keyOk (kvs : List (D × D)) (dk : D) : Bool := kindOk kvs dk && dk.hk.isSome
def roomD (kvs : List (D × D)) (dk : D) : M Unit := fun e => if (keyOk kvs dk && decide (kvs.length < 1000000)) = true then .ok () e else .err
theorem wp_roomD {β : Type} {kvs : List (D × D)} {dk : D} {g : M β} {e : Env} {A : β → Env → Prop} {B : Exn → Env → Prop} (h : (bindM (roomD kvs dk) (fun _ => g) e).wp A B) : kindOk kvs dk = true ∧ (∃ k, dk.hk = some k) ∧ kvs.length < sizeLine ∧ (g e).wp A B := by
  unfold bindM roomD at h
  by_cases c : (keyOk kvs dk && decide (kvs.length < 1000000)) = true
  · simp only [if_pos c] at h
    unfold keyOk at c
    simp only [Bool.and_eq_true, decide_eq_true_eq] at c
    exact ⟨c.1.1, some_of c.1.2, Nat.lt_of_lt_of_le c.2 (by decide), h⟩
  · simp only [if_neg c] at h
    exact h.elim
def putM (i : Nat) (mk mv : M D) : M Fl := bindM mv fun dv => bindM (ownD i) fun _ => bindM mk fun dk => bindM (ownD i) fun kvs => bindM (roomD kvs dk) fun _ => bindM (setM i (.own (.dct (dput kvs dk dv)))) fun _ => pureM .nx
theorem psm_put {X : Cx} {W : WX} {x : Str} {p pos' pos : Pos} {idx value : Expr} {mk mv : M D} (i : Nat) (hu : X.A.units + 64 < cLine) (hk : PM X W idx mk) (hv : PM X W value mv) (hN : X.N[i]? = some x := by rfl) (hvis : Vis X.env.scope x := by first | exact Or.inl rfl | exact Or.inr (Or.inl rfl) | exact Or.inr (Or.inr rfl))
    (hd : (x == ("__debug__" : Str)) = false := by decide) (hcd : (x == ("__classdict__" : Str)) = false := by decide) (hs : swapsWith value (some (.Subscript (.Name x p) idx pos')) pos.line X.env = pure false := by rfl) :
    PSM X W (.Assign [.Subscript (.Name x p) idx pos'] value pos) (putM i mk mv) := by
  refine PS.weaken (ps_putN hu (pe_var hN hvis hd hcd) hk hv hs) ?_
  rintro D' σ H ⟨ra, HK, F, e, R, h⟩
  unfold putM at h
  refine stepS R h fun F1 e1 dv v H1 s1 R1 r1 q1 => ?_
  obtain ⟨l, q, h1⟩ := wp_ownD q1
  obtain ⟨a, ea, _⟩ := R1.sl i _ q
  refine ⟨.ref a, ea, ?_⟩
  refine stepS R1 h1 fun F2 e2 dk y H2 s2 R2 r2 q2 => ?_
  obtain ⟨kvs, q3, h3⟩ := wp_ownD q2
  obtain ⟨k1, ⟨k, ek⟩, hz, h4⟩ := wp_roomD h3
  obtain ⟨hl, h5⟩ := wp_setM h4
  obtain ⟨a2, ea2, ⟨es, at_, re⟩, _⟩ := R2.sl i _ q3
  rw [ea] at ea2
  cases ea2
  refine ⟨ra, F2, a, es, kvs, dk, k, ⟨rfl, R2.fh, at_, re⟩, r2, k1, ek, by rw [re.length]; exact hz, fun o df => ?_⟩
  exact h5 _ F2 _ (Same.refl F2) (R2.store q3 ea ⟨_, ⟨o, upd_same, df⟩, re.put ek r2 (Rep.mono s2 r1)⟩)
/-! ### {k: v} -/
def tDisp1 (w : World) (K : PySem.W.Frag) (tk tv : TE) : TE := fun σ H Q => ∀ p, H p = none → (p == sysModules) = false → tk σ (upd H p (objO p emptyD)) fun y H1 => tv σ H1 fun z H2 => H2 p = some (objO p emptyD) ∧ ∃ ra F dk k, Same F H2 ∧ Rep w K ra F y dk ∧ kindOk [] dk = true ∧ dk.hk = some k ∧
  ∀ o, DF w p [(k, y, z)] o → Q (.ref p) (upd H2 p (objO p o))
theorem pe_disp1 {X : Cx} {pos : Pos} {ke ve : Expr} {tk tv : TE} (hu : X.A.units + 64 < cLine) (hk : PE X ke tk) (hv : PE X ve tv) : PE X (.Dict [some ke] [ve] pos) (tDisp1 X.w X.K tk tv) := by
  refine ⟨fun pins s σ H Q I q => ?_⟩
  have hn := I.hok.fresh (Nat.le_refl s.heap.objs.size)
  have hsm := big_ne I
  have I1 := laidO I
  have hh := q _ hn hsm
  rw [arm_eval_Dict]
  have hsh : (evalEachOpt [some ke] X.env).zip ((evalEach [ve] X.env).map fun v => do let x ← v; standAt pos; pure x) = (pairTrees [some ke] [ve] X.env pos).map fun p => (some p.1, p.2) := by rfl
  rw [hsh, dictDisplay_pairs (pairTrees [some ke] [ve] X.env pos) (by intro z; cases z) (show 1 < 17 by decide)]
  refine wpAny_bind (wpAny_standAt (wpAny_bind ?_))
  unfold subDict
  refine wpAny_bind (wpAny_alloc ?_)
  refine wpAny_bind (wpAny_holding ?_)
  rw [if_pos (show (pairTrees [some ke] [ve] X.env pos).length ≤ 15 from (show 1 ≤ 15 by decide))]
  refine wpAny_bind ?_
  have pps : PPs X pos [some ke] [ve] [(tk, tv)] := pps_cons hk hv pps_nil
  refine wpAny_mono (wpAny_evalPairs_len (pps.run pins _ σ _ (fun ps H2 => match ps with
    | [(y, z)] => H2 s.heap.objs.size = some (objO s.heap.objs.size emptyD) ∧ ∃ ra F dk k, Same F H2 ∧ Rep X.w X.K ra F y dk ∧ kindOk [] dk = true ∧ dk.hk = some k ∧
      ∀ o, DF X.w s.heap.objs.size [(k, y, z)] o → Q (.ref s.heap.objs.size) (upd H2 s.heap.objs.size (objO s.heap.objs.size o))
    | _ => False) I1 hh)) (fun ws s2 hw => ?_) fun _ _ e => e
  obtain ⟨_, ps, H2, I2, rel, hq⟩ := hw
  match ps, rel, hq with
  | [(y, z)], rel, hq =>
    obtain ⟨e2, ra, F, dk, k, fh, rd, hk0, ek, fin⟩ := hq
    cases rel with
    | @cons a b as bs hab t =>
      cases t
      obtain ⟨b1, b2⟩ := b
      obtain ⟨ry, rz⟩ := hab
      refine wpAny_holding ?_
      refine wpAny_bind ?_
      rw [List.forIn_cons]
      refine wpAny_bind (wpAny_bind (d_dictSetN (F := F) (es := []) (kvs := []) hu I2 fh ⟨_, e2, df_empty hsm⟩ .nil rd hk0 ek (by decide) ry rz fun s4 o df I4 => wpAny_pure ?_))
      simp only [List.forIn_nil]
      exact wpAny_pure (wpAny_pure (wpAny_pure (wpAny_pure ⟨.ref s.heap.objs.size, _, I4, rfl, fin o df⟩)))
def disp1M (mk mv : M D) : M OD := fun e => match mk e with
  | .ok dk e1 => (match mv e1 with
    | .ok dv e2 => if keyOk [] dk = true then .ok (.dct [(dk, dv)]) e2 else .err
    | _ => .err)
  | _ => .err
theorem pmo_disp1 {X : Cx} {W : WX} {ke ve : Expr} {pos : Pos} {mk mv : M D} (hu : X.A.units + 64 < cLine) (hk : PM X WN ke mk) (hv : PM X WN ve mv) : PMO X W (.Dict [some ke] [ve] pos) (disp1M mk mv) := by
  refine PE.weaken (pe_disp1 hu hk hv) ?_
  rintro σ H Q ⟨ra, HK, F, e, R, h⟩
  intro p hp hs
  have kp : HK.h p = none := R.kh.free hp
  have hpn : ∀ a, HK.pin a → HK.h a ≠ none := fun a ha => (R.pn a ha).1
  unfold disp1M at h
  refine ⟨ra, _, F, e, R.pinNew hp (objO p emptyD), ?_⟩
  cases e1 : mk e with
  | err =>
    rw [e1] at h
    exact h.elim
  | exc x e' =>
    rw [e1] at h
    exact h.elim
  | ok dk env1 =>
    rw [e1] at h
    intro y F1 H1 s1 R1 ry
    refine ⟨ra, _, F1, env1, R1, ?_⟩
    simp only at h
    cases e2 : mv env1 with
    | err =>
      rw [e2] at h
      exact h.elim
    | exc x e' =>
      rw [e2] at h
      exact h.elim
    | ok dv env2 =>
      rw [e2] at h
      simp only at h
      intro z F2 H2 s2 R2 rz
      by_cases c : keyOk [] dk = true
      · rw [if_pos c] at h
        unfold keyOk at c
        simp only [Bool.and_eq_true] at c
        obtain ⟨k, ek⟩ := some_of c.2
        have ry2 : Rep X.w X.K ra F2 y dk := Rep.mono s2 ry
        have st := R2.kh p _ (show upd HK.h p (objO p emptyD) p = some (objO p emptyD) from upd_same)
        refine ⟨st, ra, F2, dk, k, R2.fh, ry2, c.1, ek, fun o df => ?_⟩
        have R3 := R2.repin (u' := objO p o)
        obtain ⟨R4, fD, nD, hD, nd⟩ := R3.unpin kp hpn
        exact h _ F2 _ (s1.trans s2) R4 ⟨p, rfl, ⟨[(k, y, z)], ⟨o, upd_same, df⟩, .cons ek ry2 rz .nil⟩, fD, kp, nD, nd⟩
      · rw [if_neg c] at h
        exact h.elim
/-! ### d.get(k, x) -/
section
variable {X : Cx} {pins : List (Addr × Obj)} {σ : L2.St} {H F : Hp} {s : Shared} {ra a : Addr} {es : List (NestedKey × V × V)} {kvs : List (D × D)} {dk : D} {kv xv : V} {u r : Value} {A : Around} {E : Value → Shared → Prop} {Q : Value → Shared → Prop}
theorem dict_seen (I : Inv X pins σ H s) (at_ : DictAt X.w H a es) : s.TypeIs (.ref a) "dict" ∧ ∀ b, Value.ref a = .ref b → ∃ ob, s.heap.get? b = some ob ∧ ob.dict = none := by
  obtain ⟨_, _, _, _, o, _, _, ho, hc, _⟩ := inv_dictP I at_
  refine ⟨⟨o, ho, hc.1⟩, fun b q => ?_⟩
  cases q
  exact ⟨o, ho, hc.2.1⟩
theorem d_getN (hu : A.units + 64 < cLine) (I : Inv X pins σ H s) (fh : Same F H) (at_ : DictAt X.w H a es) (re : RepE X.w X.K ra F es kvs) (rd : Rep X.w X.K ra F kv dk) (hk : kindOk kvs dk = true) (hs : dk.hk.isSome = true) (rk : RelV kv u) (rx : RelV xv r)
    (h0 : dget kvs dk = none → ∀ s', Inv X pins σ H s' → Q r s') (h1 : ∀ dv, dget kvs dk = some dv → ∀ v w' s', Rep X.w X.K ra F v dv → RelV v w' → Inv X pins σ H s' → Q w' s') : wpAny (model X.prog X.w) A (call (.builtin "dict.get") [.ref a, u, r]) Q E s := by
  obtain ⟨hd, _, nd, un, _⟩ := inv_dictP I at_
  obtain ⟨k, ek⟩ := some_of hs
  obtain ⟨g1, g2⟩ := re.get ek
  have hu8 : A.in1.units + 8 < cLine := by
    have : A.in1.units = A.units + 1 := rfl
    omega
  cases dk with
  | tup l =>
    obtain ⟨xs, p, hm, hd, _⟩ := inv_dictRef I fh at_ re (uni_refs re un hk)
    cases rd with
    | @tup b vs ds hq hr =>
      cases rk
      have kk := hk_of ek
      have isk : (nestedKind X.prog X.w).is s.heap k b := ⟨Rep.nested I fh (.tup l) (.tup hq hr) kk.1 rfl, kk.2⟩
      obtain ⟨p1, p2⟩ := ER.get (k := k) p
      refine call_meetsIn PySem.F.slot_dict_get hm.typeIs PySem.F.entry_dict_get (PySem.F.args_dict_get_3 _ _ _) (meetsH_dict_get_default (nestedKind X.prog X.w) a b hd r) ⟨hu8, k, xs, isk, hm, ?_⟩
      cases e : dget kvs (.tup l) with
      | none =>
        rw [p2 (g2 e)]
        exact h0 e _ (I.tok _)
      | some dv =>
        obtain ⟨vv, e1, e2⟩ := g1 dv e
        obtain ⟨q, q1, q2⟩ := p1 vv e1
        rw [q1]
        exact h1 dv e vv _ _ e2 q2 (I.tok _)
  | int i =>
    obtain ⟨xs, p, hm, hd, _⟩ := inv_dictInt I at_ re (uni_ints re un hk)
    cases rd
    obtain ⟨t, rfl⟩ := rk
    have ei : k = .num i := by
      have := (hk_of ek).1
      simp [D.key] at this
      exact this.symm
    subst ei
    obtain ⟨p1, p2⟩ := IR.get (k := i) p
    refine call_meetsIn PySem.F.slot_dict_get hm.typeIs PySem.F.entry_dict_get (PySem.F.args_dict_get_3 _ _ _) (meets_dict_get_default (PySem.intKind X.prog X.w) (k := i) a (by simp [PySem.intKind, Value.isInt]) hd r) ⟨_, hm.mapOf, ?_⟩
    cases e : dget kvs (.int i) with
    | none =>
      rw [p2 (g2 e)]
      exact h0 e _ (I.tok _)
    | some dv =>
      obtain ⟨vv, e1, e2⟩ := g1 dv e
      obtain ⟨q, q1, q2⟩ := p1 vv e1
      rw [q1]
      exact h1 dv e vv _ _ e2 q2 (I.tok _)
  | _ => cases kvs with
    | nil => cases hk
    | cons p kvs => (obtain ⟨p1, p2⟩ := p; cases p1 <;> cases hk)
end
def tGetN (w : World) (K : PySem.W.Frag) (td ty tx : TE) : TE := fun σ H Q => td σ H fun x H1 => ∃ a, x = .ref a ∧ (∃ es, DictAt w H1 a es) ∧ ty σ H1 fun y H2 => tx σ H2 fun z H3 => ∃ ra F es kvs dk, DAt w K ra F H3 x a es kvs ∧ Rep w K ra F y dk ∧ kindOk kvs dk = true ∧ dk.hk.isSome = true ∧
  (dget kvs dk = none → Q z H3) ∧ ∀ dv, dget kvs dk = some dv → ∀ v, Rep w K ra F v dv → Q v H3
theorem pe_getN {X : Cx} {o e f : Expr} {apos cpos : Pos} {td ty tx : TE} (hu : X.A.units + 64 < cLine) (ho : PE X o td) (he : PE X e ty) (hf : PE X f tx) (m : M2 X o "get" apos e f cpos) : PE X (.Call (.Attribute o "get" apos) [e, f] [] cpos) (tGetN X.w X.K td ty tx) := by
  refine ⟨fun pins s σ H Q I h => ?_⟩
  refine wpAny_Call_method m.base m.few m.line PySem.F.plainAttrs_dict PySem.F.slot_dict_get PySem.F.type_dict_get (thn (ho.run pins s σ H _ I h) fun u s1 ⟨x, H1, I1, rx, a, ex, ⟨es, at_⟩, q1⟩ => ?_)
  subst ex
  obtain rfl : u = Value.ref a := rx
  obtain ⟨t1, t2⟩ := dict_seen I1 at_
  refine ⟨t1, t2, ?_⟩
  rw [m.trees]
  refine Calls.callWith_builtin rfl (Calls.evalArgs_plain (Calls.spliced_cons (thn (he.run pins s1 σ H1 _ I1 q1) fun iv s2 ⟨y, H2, I2, ry, q2⟩ =>
    Calls.spliced_cons (thn (hf.run pins s2 σ H2 _ I2 q2) fun fv s3 ⟨z, H3, I3, rz, q3⟩ => Calls.spliced_nil ?_))))
  obtain ⟨ra, F, es', kvs, dk, ⟨_, fh, at2, re⟩, rd, hk, hs, h0, h1⟩ := q3
  exact d_getN hu I3 fh at2 re rd hk hs ry rz (fun e s4 I4 => ⟨z, H3, I4, rz, h0 e⟩) fun dv e v w' s4 rv rw' I4 => ⟨v, H3, I4, rw', h1 dv e v rv⟩
def getM (md : M Ref) (mk mx : M D) : M D := bindM md fun r => bindM (derefM r) fun d => match d with
  | .dct _ => bindM mk fun dk => bindM mx fun dx => bindM (derefM r) fun d => match d with
    | .dct kvs => if keyOk kvs dk = true then pureM ((dget kvs dk).getD dx) else errM
    | _ => errM
  | _ => errM
/-- what a container is called stays so, where the names stay -/
theorem TR.keep {w : World} {K : PySem.W.Frag} {ra : Addr} {HK : Kp} {σ : L2.St} {e e' : Env} {F F' H H' : Hp} {v : V} {r : Ref} (t : TR w K ra HK σ e F H v r) (s : Same F F') : TR w K ra HK σ e' F' H' v r := by
  cases r with
  | val d => exact Rep.mono s t
  | slot i => exact t
theorem pm_get {X : Cx} {W : WX} {o k x : Expr} {apos cpos : Pos} {md : M Ref} {mk mx : M D} (hu : X.A.units + 64 < cLine) (ho : PMR X W o md) (hk : PM X W k mk) (hx : PM X W x mx)
    (hb : attributeBase o "get" X.env (eval o X.env) = eval o X.env := by rfl) (hfew : ((backTo cpos (starEach [k, x] X.env)).all (fun x => !x.1) && (backToKw cpos (keywordEach [] X.env)).all (fun x => x.1.isSome)
    && decide (([k, x] : List Expr).length + ([] : List Keyword).length + (if ([] : List Keyword).isEmpty then 0 else 1) < 30)) = true := by rfl) (hl : (apos.endLine == cpos.line) = true := by rfl) (ht : backTo cpos (starEach [k, x] X.env) = [(false, eval k X.env), (false, eval x X.env)] := by rfl) :
    PM X W (.Call (.Attribute o "get" apos) [k, x] [] cpos) (getM md mk mx) := by
  refine PE.weaken (pe_getN hu ho hk hx ⟨hb, hfew, hl, ht⟩) ?_
  rintro σ H Q ⟨ra, HK, F, e, R, h⟩
  unfold getM at h
  refine stepG R h fun F1 e1 r v H1 s1 R1 r1 q1 => ?_
  obtain ⟨d, hd, q2, _⟩ := R1.deref r1 q1
  cases d with
  | dct kvs0 =>
    obtain ⟨a, es, rfl, at_, _⟩ := hd.dct R1.fh
    refine ⟨a, rfl, ⟨es, at_⟩, ?_⟩
    refine stepG (g := fun dk => bindM mx fun dx => bindM (derefM r) fun d => match d with
      | .dct kvs => if keyOk kvs dk = true then pureM ((dget kvs dk).getD dx) else errM
      | _ => errM) R1 q2 fun F2 e2 dk y H2 s2 R2 r2 q3 => ?_
    refine stepG R2 q3 fun F3 e3 dx z H3 s3 R3 r3 q4 => ?_
    obtain ⟨d2, hd2, q5, _⟩ := R3.deref (TR.keep r1 (s2.trans s3)) q4
    cases d2 with
    | dct kvs =>
      obtain ⟨a', es', ea, fh, at2, re⟩ := hd2.dat R3.fh
      cases ea
      have q6 : Res.wp ((if keyOk kvs dk = true then pureM ((dget kvs dk).getD dx) else errM : M D) e3) (okG TV X.w X.K ra HK F3 σ Q) (exW X.w X.K ra HK F3 W) := q5
      by_cases c : keyOk kvs dk = true
      · rw [if_pos c] at q6
        unfold keyOk at c
        simp only [Bool.and_eq_true] at c
        have r2' : Rep X.w X.K ra F3 y dk := Rep.mono s3 r2
        refine ⟨ra, F3, es', kvs, dk, ⟨rfl, fh, at2, re⟩, r2', c.1, c.2, fun e0 => ?_, fun dv e0 v rv => ?_⟩
        · rw [e0] at q6
          exact q6 z F3 H3 (Same.refl F3) R3 r3
        · rw [e0] at q6
          exact q6 v F3 H3 (Same.refl F3) R3 rv
      · rw [if_neg c] at q6
        exact q6.elim
    | _ => exact q5.elim
  | _ => exact q2.elim
end Mi

set_option Elab.async false
set_option linter.all false
set_option maxRecDepth 100000
set_option maxHeartbeats 4000000
/-! Mirrors, part Y: xs[i] = v, xs[i] += n, d[k] += n; properties of a Rule. -/
namespace Mi
open PySem PySem.Spec PyProof.Rows L2
section
variable {X : Cx} {W : WX} {x : Str} {p pos pos2 : Pos}
end
/-! ### a list of one's own: xs * n -/
section
variable {X : Cx} {W : WX} {a b : Expr} {ma mb : M Ref} {pos : Pos}
end
/-! ### a, b = x, y where a name is read from inside (the pair itself is laid and not tracked) -/
section
variable {X : Cx} {W : WX} {r : M (List Slot)}
theorem TSl.length {w : World} {K : PySem.W.Frag} {ra : Addr} {F1 H1 : Hp} {σ : L2.St} : ∀ (is : List Nat) (vs : List V) (ss : List Slot) (HK : Kp) (e1 e2 : Env), TSl vs ss w K ra HK σ e1 F1 H1 → setAll is ss e1 = .ok () e2 → vs.length = is.length := by
      intro is
      induction is with
      | nil =>
        intro vs ss HK e1 e2 t q
        match vs, ss, t, q with
        | [], [], _, _ => rfl
        | _, _ :: _, _, q => cases q
        | _ :: _, [], t, _ => exact t.elim
      | cons i is ih =>
        intro vs ss HK e1 e2 t q
        match vs, ss, t, q with
        | [], [], _, q => cases q
        | [], _ :: _, t, _ => exact t.elim
        | _ :: _, [], t, _ => exact t.elim
        | v :: vs, .val d :: ss, t, q =>
          obtain ⟨e3, q1, _⟩ := setAll_cons q
          rw [List.length_cons, List.length_cons, ih vs ss HK e1 e3 t.2 q1]
        | v :: vs, .own o :: ss, t, q =>
          obtain ⟨e3, q1, _⟩ := setAll_cons q
          obtain ⟨a, u, _, _, _, _, t⟩ := t
          rw [List.length_cons, List.length_cons, ih vs ss _ e1 e3 t q1]
        | _ :: _, .no :: _, t, _ => exact t.elim
        | _ :: _, .pin :: _, t, _ => exact t.elim
        | v :: vs, .box l :: ss, t, q =>
          obtain ⟨e3, q1, _⟩ := setAll_cons q
          obtain ⟨rfl, rfl, _⟩ := t
          cases is with
          | nil => rfl
          | cons j is => cases q1
end
/-! ### max of the keys of a dict -/
section
variable {X : Cx} {W : WX} {a : Expr} {ma : M Ref} {pos : Pos}
end
end Mi

set_option Elab.async false
set_option linter.all false
set_option maxRecDepth 100000
set_option maxHeartbeats 4000000
/-! Mirrors, part Z: errors with fields: raised, caught, read. -/
namespace Mi
open PySem PySem.Spec PyProof.Rows L2
/-! ### what the snapshot says of such a class -/
def oexB (K : PySem.W.Frag) (C : Addr) : Bool := match K.lookup C with
  | some ⟨.type "type", _, .cls cd, sl⟩ => (match cd.mro, sl.toList with
    | .ref C' :: bm, [_, _, _, _, some (.builtin n), _] => C' == C && (n == "ValueError.__new__" && (!cd.hasDel && (cd.hasDict && PySem.HandSPX.refsVE bm)))
    | _, _ => false)
  | _ => false
theorem oexB_ok {K : PySem.W.Frag} {C : Addr} (h : oexB K C = true) : ∃ nm q N bs bm sn sub ab col dd k0 k1 k2 k3 k5, K.lookup C = some (excClassObj nm q C N bs bm true sn sub ab col dd k0 k1 k2 k3 k5 "ValueError.__new__") ∧ PySem.HandSPX.refsVE bm = true := by
  unfold oexB at h
  split at h
  · rename_i dd cd sl ho
    split at h
    · rename_i C' bm k0 k1 k2 k3 n k5 hm hs
      simp only [Bool.and_eq_true, beq_iff_eq, Bool.not_eq_true'] at h
      obtain ⟨rfl, rfl, hdel, hdct, hb⟩ := h
      obtain ⟨nm, bs, mro, ns, qn, hd, sn, sub, ab, col, del⟩ := cd
      dsimp only at hm hdel hdct
      subst hm hdel hdct
      have hsl : sl = #[k0, k1, k2, k3, some (.builtin "ValueError.__new__"), k5] := by
        obtain ⟨l⟩ := sl
        simp only at hs
        rw [hs]
      subst hsl
      exact ⟨nm, qn, ns, bs, bm, sn, sub, ab, col, dd, k0, k1, k2, k3, k5, ho, hb⟩
    · cases h
  · cases h
def xB (K : PySem.W.Frag) (x : Str) (fs : List Str) : Bool := oexB K (He.ga K x) && (decide (PySem.W.findIn K (.ref (He.ga K x)) "__setattr__" = some (some (.builtin "object.__setattr__"))) && (decide (PySem.W.subIn K (.ref (He.ga K x)) (.type "BaseException") = some true) &&
  (decide (PySem.W.typeIn K (.ref (He.ga K x)) = some (.type "type")) && (PySem.W.keepIn K (.ref (He.ga K x)) && (decide (PySem.W.findIn K (.ref (He.ga K x)) "__init__" = some (some (.ref (He.ma K (He.ga K x) "__init__")))) &&
  (decide (PySem.W.typeIn K (.ref (He.ma K (He.ga K x) "__init__")) = some (.type "function")) && fs.all fun f => decide (PySem.W.findIn K (.ref (He.ga K x)) f = some none)))))))
structure ExcI (K : PySem.W.Frag) (mg : Str → Option Value) (x : Str) (fs : List Str) : Prop where
  T : OexC K (He.ga K x)
  iC : PySem.W.findIn K (.ref (He.ga K x)) "__init__" = some (some (.ref (He.ma K (He.ga K x) "__init__")))
  tI : PySem.W.typeIn K (.ref (He.ma K (He.ga K x) "__init__")) = some (.type "function")
  nf : ∀ f ∈ fs, PySem.W.findIn K (.ref (He.ga K x)) f = some none
  g : mg x = some (.ref (He.ga K x))
theorem xB_ok {K : PySem.W.Frag} {mg : Str → Option Value} {x : Str} {fs : List Str} (h : xB K x fs = true) (g : mg x = some (.ref (He.ga K x))) : ExcI K mg x fs := by
  unfold xB at h
  simp only [Bool.and_eq_true, decide_eq_true_eq, List.all_eq_true] at h
  obtain ⟨h1, h2, h3, h4, h5, h6, h7, h8⟩ := h
  exact ⟨⟨oexB_ok h1, h2, h3, h4, h5⟩, h6, h7, h8, g⟩
/-! ### their __init__ -/
def spX (K : PySem.W.Frag) (C : Addr) (fs : List Str) : Sp := fun vs H Q _ => ∃ (a : Addr) (ws : List V), vs = .ref a :: ws ∧ ws.length = fs.length ∧ H a = some (exo a C none) ∧
  ∀ (dx : Addr) (H2 : Hp), H dx = none → dx ≠ a → H2 a = some (exo a C (some dx)) → H2 dx = some (exd dx (fs.zip ws).reverse) → (∀ b, b ≠ a → b ≠ dx → H2 b = H b) → Q .non H2
structure XInit (P : Program) (w : World) (K : PySem.W.Frag) (mg : Str → Option Value) (base : Heap) (x : Str) (fs : List Str) (k : Nat) : Prop where
  c : ExcI K mg x fs
  ex : ∃ fd ps, FnOk P w K mg base (L2.CX P w) k (He.ma K (He.ga K x) "__init__") fd ps (spX K (He.ga K x) fs) ∧ Binds K fd ps []
section
variable {P : Program} {w : World} {K : PySem.W.Frag} {mg : Str → Option Value} {base : Heap} {x qual self a1 a2 f1 f2 : Str} {params : Arguments} {scope : Scope} {fd : FuncData} {p1 p2 p3 p4 q1 q2 q3 q4 : Pos}
theorem xinit1 (c : ExcI K mg x [f1]) (FD : FunD K "__init__" qual params [.Assign [.Attribute (.Name self p1) f1 p2] (.Name a1 p3) p4] scope [] [] (He.ma K (He.ga K x) "__init__") fd) (S : FnScope [self, a1] [self, a1] scope) (hb : Binds K fd [self, a1] [])
    (hd0 : (self == ("__debug__" : Str)) = false := by decide) (hc0 : (self == ("__classdict__" : Str)) = false := by decide) (hd1 : (a1 == ("__debug__" : Str)) = false := by decide) (hc1 : (a1 == ("__classdict__" : Str)) = false := by decide)
    (hv0 : ∀ (cdv : Value) (A : Around) (outer : List PySem.Env) (s : Shared) (H : Hp) (E : XK), Vis (cxOf (L2.CX P w) P w K mg base [self, a1] qual scope (He.ma K (He.ga K x) "__init__") cdv A outer s H E).env.scope self) (hv1 : ∀ (cdv : Value) (A : Around) (outer : List PySem.Env) (s : Shared) (H : Hp) (E : XK), Vis (cxOf (L2.CX P w) P w K mg base [self, a1] qual scope (He.ma K (He.ga K x) "__init__") cdv A outer s H E).env.scope a1)
    (hs : ∀ (cdv : Value) (A : Around) (outer : List PySem.Env) (s : Shared) (H : Hp) (E : XK), swapsWith (.Name a1 p3) (some (.Attribute (.Name self p1) f1 p2)) p4.line (cxOf (L2.CX P w) P w K mg base [self, a1] qual scope (He.ma K (He.ga K x) "__init__") cdv A outer s H E).env = pure false) : XInit P w K mg base x [f1] 1 := by
  refine ⟨c, fd, _, FD.ok S (fun vs H Q E h => ?_) (fun cdv A outer s H vs Q E hr h => ⟨_, pss_one (ps_ost (pe_var (i := 0) rfl (hv0 cdv A outer s H E) hd0 hc0) (pe_var (i := 1) rfl (hv1 cdv A outer s H E) hd1 hc1) (hs cdv A outer s H E)), ?_⟩), hb⟩
  · obtain ⟨a, ws, rfl, hl, _⟩ := h
    simp at hl ⊢
    exact hl
  · obtain ⟨a, ws, rfl, hl, ha, q⟩ := h
    match ws, hl with
    | [y], _ =>
      refine ⟨y, rfl, .ref a, rfl, a, He.ga K x, rfl, c.T, c.nf f1 List.mem_cons_self, .inl ⟨ha, fun dx hdx hne => ?_⟩⟩
      exact q dx _ hdx hne upd_same (by rw [upd_ne hne, upd_same]; rfl) fun b h1 h2 => by rw [upd_ne h1, upd_ne h2]
theorem xinit2 (c : ExcI K mg x [f1, f2]) (FD : FunD K "__init__" qual params [.Assign [.Attribute (.Name self p1) f1 p2] (.Name a1 p3) p4, .Assign [.Attribute (.Name self q1) f2 q2] (.Name a2 q3) q4] scope [] [] (He.ma K (He.ga K x) "__init__") fd) (S : FnScope [self, a1, a2] [self, a1, a2] scope) (hb : Binds K fd [self, a1, a2] [])
    (hd0 : (self == ("__debug__" : Str)) = false := by decide) (hc0 : (self == ("__classdict__" : Str)) = false := by decide) (hd1 : (a1 == ("__debug__" : Str)) = false := by decide) (hc1 : (a1 == ("__classdict__" : Str)) = false := by decide) (hd2 : (a2 == ("__debug__" : Str)) = false := by decide) (hc2 : (a2 == ("__classdict__" : Str)) = false := by decide)
    (hv0 : ∀ (cdv : Value) (A : Around) (outer : List PySem.Env) (s : Shared) (H : Hp) (E : XK), Vis (cxOf (L2.CX P w) P w K mg base [self, a1, a2] qual scope (He.ma K (He.ga K x) "__init__") cdv A outer s H E).env.scope self) (hv1 : ∀ (cdv : Value) (A : Around) (outer : List PySem.Env) (s : Shared) (H : Hp) (E : XK), Vis (cxOf (L2.CX P w) P w K mg base [self, a1, a2] qual scope (He.ma K (He.ga K x) "__init__") cdv A outer s H E).env.scope a1)
    (hv2 : ∀ (cdv : Value) (A : Around) (outer : List PySem.Env) (s : Shared) (H : Hp) (E : XK), Vis (cxOf (L2.CX P w) P w K mg base [self, a1, a2] qual scope (He.ma K (He.ga K x) "__init__") cdv A outer s H E).env.scope a2)
    (hs : ∀ (cdv : Value) (A : Around) (outer : List PySem.Env) (s : Shared) (H : Hp) (E : XK), swapsWith (.Name a1 p3) (some (.Attribute (.Name self p1) f1 p2)) p4.line (cxOf (L2.CX P w) P w K mg base [self, a1, a2] qual scope (He.ma K (He.ga K x) "__init__") cdv A outer s H E).env = pure false)
    (hs2 : ∀ (cdv : Value) (A : Around) (outer : List PySem.Env) (s : Shared) (H : Hp) (E : XK), swapsWith (.Name a2 q3) (some (.Attribute (.Name self q1) f2 q2)) q4.line (cxOf (L2.CX P w) P w K mg base [self, a1, a2] qual scope (He.ma K (He.ga K x) "__init__") cdv A outer s H E).env = pure false) : XInit P w K mg base x [f1, f2] 1 := by
  refine ⟨c, fd, _, FD.ok S (fun vs H Q E h => ?_) (fun cdv A outer s H vs Q E hr h => ⟨_, pss_cons (ps_ost (pe_var (i := 0) rfl (hv0 cdv A outer s H E) hd0 hc0) (pe_var (i := 1) rfl (hv1 cdv A outer s H E) hd1 hc1) (hs cdv A outer s H E)) (pss_one (ps_ost (pe_var (i := 0) rfl (hv0 cdv A outer s H E) hd0 hc0) (pe_var (i := 2) rfl (hv2 cdv A outer s H E) hd2 hc2) (hs2 cdv A outer s H E))), ?_⟩), hb⟩
  · obtain ⟨a, ws, rfl, hl, _⟩ := h
    simp at hl ⊢
    exact hl
  · obtain ⟨a, ws, rfl, hl, ha, q⟩ := h
    match ws, hl with
    | [y, z], _ =>
      refine ⟨y, rfl, .ref a, rfl, a, He.ga K x, rfl, c.T, c.nf f1 List.mem_cons_self, .inl ⟨ha, fun dx hdx hne => ?_⟩⟩
      refine ⟨z, rfl, .ref a, rfl, a, He.ga K x, rfl, c.T, c.nf f2 (List.mem_cons_of_mem _ List.mem_cons_self), .inr ⟨dx, [(f1, y)], upd_same, by rw [upd_ne hne, upd_same], (show 1 ≤ 900 by decide), ?_⟩⟩
      exact q dx _ hdx hne (by rw [upd_ne hne.symm, upd_same]) upd_same fun b h1 h2 => by rw [upd_ne h2, upd_ne h1, upd_ne h2]
end
/-! ### raise C(e, ..) -/
def raiseXM (c : Str) (fs : List Str) (r : M (List D)) : M Fl := bindM r fun ds e => .exc ⟨c, (fs.zip ds).reverse⟩ e
theorem zip_rev {α β : Type} : ∀ {l : List α} {m : List β}, l.length = m.length → (l.zip m).reverse = l.reverse.zip m.reverse
  | [], [], _ => rfl
  | [], _ :: _, h => by cases h
  | _ :: _, [], h => by cases h
  | x :: l, y :: m, h => by
    have h' : l.length = m.length := by simpa using h
    rw [List.zip_cons_cons, List.reverse_cons, List.reverse_cons, List.reverse_cons, zip_rev h', List.zip_append (by simpa using h')]
    rfl
theorem zip_fst {α β : Type} : ∀ {l : List α} {m : List β}, l.length = m.length → (l.zip m).map (·.1) = l
  | [], [], _ => rfl
  | [], _ :: _, h => by cases h
  | _ :: _, [], h => by cases h
  | x :: l, y :: m, h => by
    have h' : l.length = m.length := by simpa using h
    rw [List.zip_cons_cons, List.map_cons, zip_fst h']
theorem zip_snd {α β : Type} : ∀ {l : List α} {m : List β}, l.length = m.length → (l.zip m).map (·.2) = m
  | [], [], _ => rfl
  | [], _ :: _, h => by cases h
  | _ :: _, [], h => by cases h
  | x :: l, y :: m, h => by
    have h' : l.length = m.length := by simpa using h
    rw [List.zip_cons_cons, List.map_cons, zip_snd h']
theorem psm_raiseX {X : Cx} {W : WX} {x : Str} {fs : List Str} {k k' : Nat} {e : Expr} {es : List Expr} {p pos pos2 : Pos} {r : M (List D)} (F0 : XInit X.prog X.w X.K X.mg X.base x fs k) (hfs : fs ≠ []) (hr : Room k' X.A) (tk : Takes X W) (ha : PMA X W (e :: es) r) (hn : ∀ e ds e', r e = .ok ds e' → ds.length = fs.length) (hl : fs.length ≤ 10 := by decide) (hk : k + 1 ≤ k' := by decide) (hc : X.calm = true := by rfl) (hg : Gl X x := by rfl)
    (hdb : (x == ("__debug__" : Str)) = false := by decide) (he : starEach (e :: es) X.env = (false, eval e X.env) :: starEach es X.env := by rfl) (hpl : (backTo pos (starEach es X.env)).any (·.1) = false := by rfl) : PSM X W (.Raise (some (.Call (.Name x p) (e :: es) [] pos)) none pos2) (raiseXM x fs r) := by
  obtain ⟨fd, ps, F1, hb⟩ := F0.ex
  refine PS.weaken (ps_raise hc tk (pmk_oex F0.c.T F0.c.iC F0.c.tI F1 (hr.mono hk) hb .nil passL hg F0.c.g ha hdb he hpl)) ?_
  rintro D' σ H ⟨ra, HK, F, e0, R, h⟩
  unfold raiseXM at h
  have h0 := wp_bind.mp h
  refine ⟨ra, HK, F, e0, R, ?_⟩
  cases er : r e0 with
  | err =>
    rw [er] at h0
    exact h0
  | exc y e1 =>
    rw [er] at h0
    exact h0
  | ok ds e1 =>
    rw [er] at h0
    intro vs F1 H1 s1 R1 r1
    have lds := hn _ _ _ er
    have lvs : vs.length = ds.length := RepA.length r1
    have l1 : fs.length = vs.length := by omega
    refine ⟨by omega, fun a ha' => ⟨a, vs, by simp, by omega, upd_same, fun dx H2 hdx hne e1' e2 hoth => ⟨rfl, dx, _, e1', e2, ?_, ?_⟩⟩⟩
    · rw [upd_ne hne] at hdx
      exact hdx
    · have hdx' : H1 dx = none := by
        rw [upd_ne hne] at hdx
        exact hdx
      have eH : upd (del H2 a) dx (.xd (fs.zip vs).reverse) = upd H1 dx (.xd (fs.zip vs).reverse) := by
        funext b
        by_cases hb1 : b = dx
        · rw [hb1, upd_same, upd_same]
        · rw [upd_ne hb1, upd_ne hb1]
          by_cases hb2 : b = a
          · rw [hb2, del_same, ha']
          · rw [del_ne hb2, hoth b hb2 hb1, upd_ne hb2]
      rw [eH]
      have h1 : exW X.w X.K ra HK F W ⟨x, (fs.zip ds).reverse⟩ e1 := h0
      refine h1 _ (some dx) σ (upd F1 dx (.xd (fs.zip vs).reverse)) _ (s1.trans (R1.alloc hdx' _).2) (R1.alloc hdx' _).1 ⟨rfl, .inr ⟨fun z => ?_, dx, vs.reverse, rfl, ?_, ?_, ?_, fun z => R1.ra_some (by rw [← z]; exact hdx')⟩⟩
      · have := congrArg List.length z
        simp at this
        rcases this with z | z
        · exact hfs z
        · have : fs.length = 0 := by rw [← lds, z]; rfl
          exact hfs (List.length_eq_zero_iff.mp this)
      · rw [upd_same]
        have e3 : ((fs.zip ds).reverse.map (·.1)) = fs.reverse := by rw [List.map_reverse, zip_fst (by omega)]
        show some (HO.xd _) = some (HO.xd (((fs.zip ds).reverse.map (·.1)).zip vs.reverse))
        rw [e3, zip_rev l1]
      · show RepA X.w X.K ra (upd F1 dx (.xd (fs.zip vs).reverse)) vs.reverse ((fs.zip ds).reverse.map (·.2))
        rw [List.map_reverse, zip_snd (by omega)]
        exact RepA.mono (R1.alloc hdx' (.xd (fs.zip vs).reverse)).2 (RepA.reverse r1)
      · rw [upd_same]
        have e3 : ((fs.zip ds).reverse.map (·.1)) = fs.reverse := by rw [List.map_reverse, zip_fst (by omega)]
        show some (HO.xd _) = some (HO.xd (((fs.zip ds).reverse.map (·.1)).zip vs.reverse))
        rw [e3, zip_rev l1]
/-! ### isinstance of a caught error -/
def rIsX (K : PySem.W.Frag) (D a : Addr) (d : Option Addr) : List V → Hp → VK → Prop := fun xs H Q => ∃ (c : V) (cv : Value) (b : Bool), xs = [.ref a, c] ∧ (∀ u, RelV c u → u = cv) ∧ PySem.W.kitOne K (.ref D) cv = some b ∧ (d = none ∨ ∃ dd fs, d = some dd ∧ H dd = some (.xd fs)) ∧ Q (.bl b) H
theorem call_isX {X : Cx} {a D : Addr} {d : Option Addr} {oe : Obj} {pn : List (Addr × Obj)} (C : ExcC X.K D) (hz : Zc (.ref D) d oe) (hf : ∃ vs, oe.data = .fields vs) : CallR (X.suite a ((a, oe) :: pn)) (.builtin "isinstance") (rIsX X.K D a d) := by
  intro pins s σ H xs us Q I r h
  obtain ⟨c, cv, b, rfl, hcv, e, hd, q⟩ := h
  cases r with
  | cons rx rr =>
    cases rr with
    | cons rt rr =>
      cases rr
      cases rx
      have ec := hcv _ rt
      subst ec
      obtain ⟨hget, _⟩ := I.pin (a, oe) (List.mem_append.mpr (.inl List.mem_cons_self))
      obtain ⟨vs, hv⟩ := hf
      have nc : PySem.W.notCls oe := by
        unfold PySem.W.notCls
        rw [hv] <;> rfl
      have hcl : (PySem.W.clsIn X.K D).isSome = true := by
        obtain ⟨cd, hc, _⟩ := PySem.W.any_some C.hd
        rw [hc]
        rfl
      have J : ∃ od, PySem.W.InstAt s.heap a oe D od := by
        rcases hd with rfl | ⟨dd, fs, rfl, hH⟩
        · exact ⟨none, hget, hz.1, nc, by rw [hz.2]; trivial⟩
        · have hx : ObjOk X.prog X.w H s.heap dd (.xd fs) := I.hok dd _ hH
          obtain ⟨mA, hns, _⟩ := hx
          obtain ⟨od, ho, _⟩ := lookIn_ns hns
          exact ⟨some od, hget, hz.1, nc, by rw [hz.2]; exact ho⟩
      obtain ⟨od, J⟩ := J
      exact PySem.W.kia_one (PySem.W.kitx_exc hcl C.hg C.hk C.hs C.ha C.hn C.ht C.hm) I.kIn J e (fun z => nomatch z) fun tk => ⟨.bl b, H, I.kept (t' := tk) fun _ _ z => z, rfl, q⟩
/-! ### what a suite makes of the error -/
/-- an expression in a suite for errors of the class c, n (slot i) being the error -/
structure HdV (X : Cx) (i : Nat) (c : Str) (A : Expr) (mA : Exn → M D) : Prop where
  run : ∀ (x : Exn) (a : Addr) (oe : Obj) (d : Option Addr) (pn : List (Addr × Obj)), x.cls = c → Zc (.ref (He.ga X.K c)) d oe → (∃ vs, oe.data = .fields vs) → ∃ te, PE (X.suite a ((a, oe) :: pn)) A te ∧
    ∀ (ra : Addr) (HK : Kp) (F : Hp) (e : Env) (σ : L2.St) (H : Hp) (Q : VK), Rel X.w X.K ra HK F e σ H → σ[i]? = some (some (.ref a)) → ExIs X.w X.K ra F H x (.ref (He.ga X.K c)) d → ((mA x) e).wp (okG TV X.w X.K ra HK F σ Q) (exW X.w X.K ra HK F WN) → te σ H Q
def XfC.of {K : PySem.W.Frag} {C : Addr} (h : ExcC K C) : XfC K C := ⟨h.hg, h.hk, h.hs, h.hd⟩
section
variable {X : Cx} {i : Nat} {c n f1 f2 : Str} {p1 p2 p3 p4 pos : Pos} {z : Str} {j0 : Nat}
end
/-! ### try with clauses for errors with fields -/
def clX (w : World) (K : PySem.W.Frag) (c : Str) (i : Nat) (m : Exn → M Fl) : Addr → Value → Option Addr → TS := fun a cl d D' σ H => ∃ x : Exn, x.cls = c ∧ cl = .ref (He.ga K c) ∧ σ[i]? = some (some (.ref a)) ∧ ∃ ra HK F e, Rel w K ra HK F e σ H ∧ ExIs w K ra F H x cl d ∧ ((m x) e).wp (okS w K ra HK F D') (exW w K ra HK F WN)
def clLX (w : World) (K : PySem.W.Frag) (hs : List (Str × Nat × (Exn → M Fl))) : List Clause := hs.map fun h => (.ref (He.ga K h.1), h.2.1, clX w K h.1 h.2.1 h.2.2)
/-- y = A if isinstance(n, CutError) else B, in the suite of such an error -/
theorem suite_isX {X : Cx} {cs : List Str} {i j : Nat} {a : Addr} {oe : Obj} {c : Str} {d : Option Addr} {pn : List (Addr × Obj)} {y n : Str} {py p p2 p3 p4 p5 pos : Pos} {A B : Expr} {mA : Exn → M D} (T : ExTab X.K X.mg cs) (hcs : c ∈ cs) (hz : Zc (.ref (He.ga X.K c)) d oe) (hf : ∃ vs, oe.data = .fields vs)
    (x : Exn) (hx : x.cls = c) (hA : HdV X i c A mA) (hB : PM (X.suite a ((a, oe) :: pn)) WN B errM) (hm : X.mg "isinstance" = none) (hN : X.N.Nodup) (hi : X.N[i]? = some n) (hj : X.N[j]? = some y) (hvi : Vis X.env.scope n)
    (hdn : (n == ("__debug__" : Str)) = false) (hcn : (n == ("__classdict__" : Str)) = false)
    (hyl : Loc X.env.scope y) (hgi : Gl X "isinstance") (hgc : Gl X "CutError") (hse : starEach [.Name n p2, .Name "CutError" p3] X.env = (false, eval (.Name n p2) X.env) :: starEach [.Name "CutError" p3] X.env)
    (hsw : swapsWith (.IfExp (.Call (.Name "isinstance" p) [.Name n p2, .Name "CutError" p3] [] p4) A B p5) (some (.Name y py)) pos.line X.env = pure false) (hfn : X.fn y = true ∨ X.env.scope.names.lookup y = some .local) :
    PSs (X.suite a ((a, oe) :: pn)) [.Assign [.Name y py] (.IfExp (.Call (.Name "isinstance" p) [.Name n p2, .Name "CutError" p3] [] p4) A B p5) pos] (fun D' σ H => σ[i]? = some (some (.ref a)) ∧ ∃ ra HK F e, Rel X.w X.K ra HK F e σ H ∧ ExIs X.w X.K ra F H x (.ref (He.ga X.K c)) d ∧ ((asgM j (mA x)) e).wp (okS X.w X.K ra HK F D') (exW X.w X.K ra HK F WN)) := by
  obtain ⟨te, hte, hread⟩ := hA.run x a oe d pn hx hz hf
  have pc : PE (X.suite a ((a, oe) :: pn)) (.Call (.Name "isinstance" p) [.Name n p2, .Name "CutError" p3] [] p4) _ := pe_callB (call_isX (T.i c hcs) hz hf) hgi hm (by decide +kernel) (pa_cons (pe_var (i := i) hi hvi hdn hcn) (pa_cons (pe_glob (v := .ref (He.ga X.K "CutError")) hgc (T.g _ T.cut) rfl (by decide)) pa_nil rfl) hse) (by decide) (by decide) hse rfl
  have ps := pss_one (ps_set (X := X.suite a ((a, oe) :: pn)) (pos := pos) (pos' := py) hN hj hyl (pe_ifExp (X := X.suite a ((a, oe) :: pn)) (pos := p5) (pt_val pc) hte hB) hsw hfn)
  refine PSs.weaken ps ?_
  rintro D' σ H ⟨e1, ra, HK, F, e, R, hex, h⟩
  refine ⟨.ref a, e1, ?_⟩
  refine ⟨.ref (He.ga X.K "CutError"), .ref (He.ga X.K "CutError"), true, rfl, fun u r => r, T.k c hcs, ?_, ?_⟩
  · obtain ⟨_, hfs⟩ := hex
    rcases hfs with ⟨_, hd⟩ | ⟨_, dd, vs, hd, hH, _⟩
    · exact .inl hd
    · exact .inr ⟨dd, _, hd, hH⟩
  · refine ⟨true, rfl, iteT ?_⟩
    unfold asgM at h
    have h1 := wp_bind.mp h
    refine hread ra HK F e σ H _ R e1 hex ?_
    refine wp_mono h1 (fun dv e' q v F' H' s R' r => ?_) fun _ _ q => q
    obtain ⟨h2, q2⟩ := wp_setM q
    exact q2 _ F' H' s (R'.setVal h2 r)
section
variable {X : Cx} {W : WX} {cs : List Str}
inductive HdX (X : Cx) (cs : List Str) : List ExceptHandler → List (Str × Nat × (Exn → M Fl)) → Prop
  | nil : HdX X cs [] []
  | cons {hds : List ExceptHandler} {hs : List (Str × Nat × (Exn → M Fl))} {i j : Nat} {c y n : Str} {py np p p2 p3 p4 p5 pos1 pos' : Pos} {A B : Expr} {mA : Exn → M D} (hcc : c ∈ cs)
    (hA : HdV X i c A mA) (hB : ∀ (a : Addr) (oe : Obj) (pn : List (Addr × Obj)), PM (X.suite a ((a, oe) :: pn)) WN B errM) (hm : X.mg "isinstance" = none) (r : HdX X cs hds hs) (hi : X.N[i]? = some n := by rfl) (hj : X.N[j]? = some y := by rfl) (hij : i ≠ j := by decide)
    (hln : X.env.kindOf n = some .local := by rfl) (hvi : Vis X.env.scope n := by first | exact Or.inl rfl | exact Or.inr (Or.inl rfl) | exact Or.inr (Or.inr rfl))
    (hdn : (n == ("__debug__" : Str)) = false := by decide) (hcn : (n == ("__classdict__" : Str)) = false := by decide) (hdc : (c == ("__debug__" : Str)) = false := by decide) (hgx : Gl X c := by rfl)
    (hyl : Loc X.env.scope y := by first | exact Or.inl rfl | exact Or.inr rfl) (hgi : Gl X "isinstance" := by rfl) (hgc : Gl X "CutError" := by rfl) (hse : starEach [.Name n p2, .Name "CutError" p3] X.env = (false, eval (.Name n p2) X.env) :: starEach [.Name "CutError" p3] X.env := by rfl)
    (hsw : swapsWith (.IfExp (.Call (.Name "isinstance" p) [.Name n p2, .Name "CutError" p3] [] p4) A B p5) (some (.Name y py)) pos1.line X.env = pure false := by rfl) (hfn : X.fn y = true ∨ X.env.scope.names.lookup y = some .local := by first | exact .inl rfl | exact .inr rfl | assumption) :
    HdX X cs (.ExceptHandler (some (.Name c np)) (some n) [.Assign [.Name y py] (.IfExp (.Call (.Name "isinstance" p) [.Name n p2, .Name "CutError" p3] [] p4) A B p5) pos1] pos' :: hds) ((c, i, fun x => asgM j (mA x)) :: hs)
theorem HdX.mem {hds : List ExceptHandler} {hs : List (Str × Nat × (Exn → M Fl))} (h : HdX X cs hds hs) : ∀ k ∈ hs, k.1 ∈ cs := by
  induction h with
  | nil => exact fun _ z => by cases z
  | cons hcc hA hB hm r hi hj hij hln hvi hdn hcn hdc hgx hyl hgi hgc hse hsw hfn ih =>
    intro k hk
    rcases List.mem_cons.mp hk with z | z
    · rw [z]
      exact hcc
    · exact ih k z
theorem HdX.ok {hds : List ExceptHandler} {hs : List (Str × Nat × (Exn → M Fl))} (T : ExTab X.K X.mg cs) (hN : X.N.Nodup) (h : HdX X cs hds hs) : AsOk X hds (clLX X.w X.K hs) := by
  induction h with
  | nil => exact .non
  | cons hcc hA hB hm r hi hj hij hln hvi hdn hcn hdc hgx hyl hgi hgc hse hsw hfn ih =>
    refine .more ⟨hgx, hdc, .inl (T.g _ hcc)⟩ hi hln (fun a oe cl d pn hz hfd => ⟨fun pins s σ H D' I h => ?_⟩) ih
    obtain ⟨x, hx, rfl, e1, h⟩ := h
    exact (suite_isX T hcc hz hfd x hx hA (hB a oe pn) hm hN hi hj hvi hdn hcn hyl hgi hgc hse hsw hfn).run pins s σ H D' I ⟨e1, h⟩
end
end Mi

set_option Elab.async false
set_option linter.all false
set_option maxRecDepth 100000
set_option maxHeartbeats 4000000
/-! Mirrors, part M: sorted(xs), xs a list of words of one length. -/
namespace Mi
open PySem PySem.Spec PyProof.Rows L2
def wI (w : List Int) : D := .tup (w.map D.int)
section
variable {w : World} {K : PySem.W.Frag} {ra : Addr} {F H : Hp}
theorem RepA.words : ∀ {vs : List V} {ws : List (List Int)}, RepA w K ra F vs (ws.map wI) → ∀ x ∈ vs, ∃ ns ∈ ws, TupI K F x ns
  | [], _, _, x, hx => by cases hx
  | v :: vs, [], h, _, _ => by cases h
  | v :: vs, u :: ws, h, x, hx => by
    cases h with
    | cons h1 h2 =>
      rcases List.mem_cons.mp hx with rfl | hx
      · refine ⟨u, List.mem_cons_self, ?_⟩
        cases h1 with
        | @tup a us ds hq hr =>
          rw [RepA.ints hr] at hq
          exact ⟨a, rfl, hq⟩
      · obtain ⟨ns, m, t⟩ := RepA.words h2 x hx
        exact ⟨ns, List.mem_cons_of_mem _ m, t⟩
end
theorem RepA.pair {K : PySem.W.Frag} {w : World} {ra : Addr} {F H : Hp} (fh : Same F H) {ys : List V} {us : List (List Int)} (r : RepA w K ra F ys (us.map wI)) (p : ys.Pairwise (fun x y => ∀ n m, TupI K H x n → TupI K H y m → TS.code 1000 n ≤ TS.code 1000 m)) : us.Pairwise fun a b => TS.code 1000 a ≤ TS.code 1000 b := by
  induction ys generalizing us with
  | nil =>
    cases us with
    | nil => exact .nil
    | cons u us => cases r
  | cons y ys ih =>
    cases us with
    | nil => cases r
    | cons u us =>
      cases r with
      | cons h1 h2 =>
        rw [List.pairwise_cons] at p ⊢
        have t1 : TupI K H y u := by
          cases h1 with
          | @tup a us' ds hq hr =>
            rw [RepA.ints hr] at hq
            exact ⟨a, rfl, Same.seqT fh hq⟩
        refine ⟨fun b hb => ?_, ih h2 p.2⟩
        have key : ∀ (vs : List V) (bs : List (List Int)), RepA w K ra F vs (bs.map wI) → ∀ b ∈ bs, ∃ v ∈ vs, TupI K H v b := by
          intro vs bs
          induction bs generalizing vs with
          | nil => exact fun _ b hb => nomatch hb
          | cons c bs ih2 =>
            intro r b hb
            cases r with
            | cons g1 g2 =>
              rcases List.mem_cons.mp hb with rfl | hb
              · cases g1 with
                | @tup a us' ds hq hr =>
                  rw [RepA.ints hr] at hq
                  exact ⟨_, List.mem_cons_self, a, rfl, Same.seqT fh hq⟩
              · obtain ⟨v, hv, t⟩ := ih2 _ g2 b hb
                exact ⟨v, List.mem_cons_of_mem _ hv, t⟩
        obtain ⟨v, hv, t2⟩ := key _ _ h2 b hb
        exact p.1 v hv u b t1 t2
section
variable {X : Cx} {W : WX} {a : Expr} {ma : M Ref} {pos : Pos}
end
end Mi

set_option Elab.async false
set_option linter.all false
set_option maxRecDepth 100000
set_option maxHeartbeats 4000000
/-! Mirrors, part M2: [y for a in xs for b in ys]. -/
namespace Mi
open PySem PySem.Spec PyProof.Rows L2
theorem wipe_key (τ : St) : ∀ (us : List Nat) (j : Nat), j ∈ us → (wipe τ us)[j]? = if j < τ.length then some none else none
  | [], j, h => by cases h
  | u :: us, j, hj => by
    unfold L2.wipe
    by_cases e : u = j
    · subst e
      by_cases l : u < τ.length
      · rw [if_pos l, List.getElem?_set_self (by rw [wipe_length]; exact l)]
      · rw [if_neg l, List.getElem?_eq_none (by rw [List.length_set, wipe_length]; omega)]
    · rw [List.getElem?_set_ne e]
      exact wipe_key τ us j (by
        rcases List.mem_cons.mp hj with z | z
        · exact absurd z.symm e
        · exact z)
theorem wipe_sub {τ : St} {us vs : List Nat} (h : ∀ i ∈ us, i ∈ vs) : wipe (wipe τ us) vs = wipe τ vs := by
  apply List.ext_getElem?
  intro j
  by_cases c : j ∈ vs
  · rw [wipe_key _ _ _ c, wipe_key _ _ _ c, wipe_length]
  · rw [L2.wipe_out c, L2.wipe_out c, L2.wipe_out fun z => c (h j z)]
def lc2In (g1 : D → M Unit) (el : M D) (vs1 : List Nat) : List D → List D → M (List D)
  | [], acc => pureM acc
  | d :: ds, acc => bindM (g1 d) fun _ => bindM el fun y => bindM (small (acc ++ [y])) fun _ => fun e => lc2In g1 el vs1 ds (acc ++ [y]) (wipeE e vs1)
def lc2Go (g : D → M Unit) (mi1 : M (List D)) (g1 : D → M Unit) (el : M D) (vs vs1 : List Nat) : List D → List D → M (List D)
  | [], acc => pureM acc
  | d :: ds, acc => bindM (g d) fun _ => bindM mi1 fun ds1 => bindM (fun e => lc2In g1 el vs1 ds1 acc (wipeE e vs1)) fun acc' => fun e => lc2Go g mi1 g1 el vs vs1 ds acc' (wipeE e vs)
def lc2Run (g : D → M Unit) (mi1 : M (List D)) (g1 : D → M Unit) (el : M D) (vs vs1 : List Nat) (ds : List D) : M OD := fun e => if noOwn e.sl vs = true then (match lc2Go g mi1 g1 el vs vs1 ds [] (wipeE e vs) with
  | .ok l e' => .ok (.lst l) (restE e' e vs)
  | _ => .err) else .err
def lc2M (mi : M (List D)) (g : D → M Unit) (mi1 : M (List D)) (g1 : D → M Unit) (el : M D) (vs vs1 : List Nat) : M OD := bindM mi (lc2Run g mi1 g1 el vs vs1)
theorem lc2_read {w : World} {K : PySem.W.Frag} {W : WX} {mi mi1 : M (List D)} {g g1 : D → M Unit} {el : M D} {is is1 vs vs1 : List Nat} (hsub : ∀ i ∈ is, i ∈ vs) (hsub1 : ∀ i ∈ is1, i ∈ vs1) (hv : ∀ i ∈ vs1, i ∈ vs) {σ : St} {H : Hp} {Q : VK} (h : tG TO w K W (lc2M mi g mi1 g1 el vs vs1) σ H Q) :
    tLc2 (tI w K W mi) (tT w K is g) tYes (tI w K WN mi1) (tT w K is1 g1) tYes (tG TV w K WN el) vs vs1 σ H Q := by
  obtain ⟨ra, HK, F, e, R, h⟩ := h
  unfold lc2M at h
  refine ⟨ra, HK, F, e, R, wp_mono (wp_bind.mp h) (fun ds e1 q J F1 H1 s1 R1 ok => ?_) fun _ _ q => q⟩
  intro D hD
  unfold lc2Run at q
  by_cases hn : noOwn e1.sl vs = true
  · simp only [if_pos hn] at q
    cases eg : lc2Go g mi1 g1 el vs vs1 ds [] (wipeE e1 vs) with
    | err =>
      rw [eg] at q
      exact q.elim
    | exc x e' =>
      rw [eg] at q
      exact q.elim
    | ok l e' =>
      rw [eg] at q
      have kD : HK.h D = none := R1.kh.free hD
      have hpn : ∀ a, HK.pin a → HK.h a ≠ none := fun a ha => (R1.pn a ha).1
      refine ⟨fun i m H => m = ds.length - i ∧ i ≤ ds.length ∧ ∃ F2 e2 acc dacc, Same F1 F2 ∧ Rel w K ra (pinD HK D (.lst acc)) F2 e2 (wipe σ vs) H ∧ RepA w K ra F2 acc dacc ∧ dacc.length ≤ sizeLine ∧ lc2Go g mi1 g1 el vs vs1 (ds.drop i) dacc e2 = .ok l e',
        ⟨ds.length, rfl, Nat.zero_le _, F1, _, [], [], Same.refl F1, (R1.wipe vs).pinNew hD _, .nil, Nat.zero_le _, eg⟩, ?_⟩
      rintro i m H2 ⟨rfl, hil, F2, e2, acc, dacc, s2, R2, ra2, hz2, h2⟩
      by_cases hlt : i < ds.length
      · refine .inr ⟨ok.go i F2 H2 s2 R2.fh hlt, fun H' => ∃ F2 e2 acc dacc, Same F1 F2 ∧ Rel w K ra (pinD HK D (.lst acc)) F2 e2 (wipe σ vs) H' ∧ RepA w K ra F2 acc dacc ∧ dacc.length ≤ sizeLine ∧ lc2Go g mi1 g1 el vs vs1 (ds.drop (i + 1)) dacc e2 = .ok l e',
          fun H' z => ⟨ds.length - (i + 1), by omega, rfl, hlt, z⟩, fun x H3 y => ?_⟩
        obtain ⟨d, F3, hd, s3, R3, r3⟩ := R2.turn ok s2 hlt y
        rw [drop_cons hd] at h2
        unfold lc2Go bindM at h2
        refine ⟨ra, _, F3, e2, d, R3, r3, ?_⟩
        cases eg2 : g d e2 with
        | err =>
          rw [eg2] at h2
          cases h2
        | exc x e3 =>
          rw [eg2] at h2
          cases h2
        | ok u e3 =>
          rw [eg2] at h2
          simp only at h2
          intro σ4 F4 H4 b4 s4 R4
          have hw4 : wipe σ4 vs = wipe σ vs := by
            rw [b4.wiped hsub, wipe_sub fun i h => h]
          refine ⟨hw4, ?_⟩
          unfold L2.tYes
          simp only [if_true]
          have sf4 := (s2.trans s3).trans s4
          have ra4 := ra2.mono (s3.trans s4)
          refine ⟨ra, _, F4, e3, R4, ?_⟩
          try unfold bindM at h2
          cases em : mi1 e3 with
          | err =>
            rw [em] at h2
            cases h2
          | exc x e5 =>
            rw [em] at h2
            cases h2
          | ok ds1 e5 =>
            rw [em] at h2
            simp only at h2
            intro J1 F5 H5 s5 R5 ok1
            try unfold bindM at h2
            cases ei : lc2In g1 el vs1 ds1 dacc (wipeE e5 vs1) with
            | err =>
              rw [ei] at h2
              cases h2
            | exc x e6 =>
              rw [ei] at h2
              cases h2
            | ok lm em' =>
              rw [ei] at h2
              simp only at h2
              refine ⟨fun j k H => k = ds1.length - j ∧ j ≤ ds1.length ∧ ∃ F6 e6 acc6 dacc6, Same F5 F6 ∧ Rel w K ra (pinD HK D (.lst acc6)) F6 e6 (wipe σ4 vs1) H ∧ RepA w K ra F6 acc6 dacc6 ∧ dacc6.length ≤ sizeLine ∧ lc2In g1 el vs1 (ds1.drop j) dacc6 e6 = .ok lm em',
                ⟨ds1.length, rfl, Nat.zero_le _, F5, _, acc, dacc, Same.refl F5, R5.wipe vs1, ra4.mono s5, hz2, ei⟩, ?_⟩
              rintro j k H6 ⟨rfl, hjl, F6, e6, acc6, dacc6, s6, R6, ra6, hz6, h6⟩
              by_cases hlt1 : j < ds1.length
              · refine .inr ⟨ok1.go j F6 H6 s6 R6.fh hlt1, fun H' => ∃ F6 e6 acc6 dacc6, Same F5 F6 ∧ Rel w K ra (pinD HK D (.lst acc6)) F6 e6 (wipe σ4 vs1) H' ∧ RepA w K ra F6 acc6 dacc6 ∧ dacc6.length ≤ sizeLine ∧ lc2In g1 el vs1 (ds1.drop (j + 1)) dacc6 e6 = .ok lm em',
                  fun H' z => ⟨ds1.length - (j + 1), by omega, rfl, hlt1, z⟩, fun x1 H7 y1 => ?_⟩
                obtain ⟨d1, F7, hd1, s7, R7, r7⟩ := R6.turn ok1 s6 hlt1 y1
                rw [drop_cons hd1] at h6
                unfold lc2In bindM at h6
                refine ⟨ra, _, F7, e6, d1, R7, r7, ?_⟩
                cases eg3 : g1 d1 e6 with
                | err =>
                  rw [eg3] at h6
                  cases h6
                | exc x e8 =>
                  rw [eg3] at h6
                  cases h6
                | ok u e8 =>
                  rw [eg3] at h6
                  simp only at h6
                  intro σ8 F8 H8 b8 s8 R8
                  have hw8 : wipe σ8 vs1 = wipe σ4 vs1 := by
                    rw [b8.wiped hsub1, wipe_sub fun i h => h]
                  refine ⟨hw8, ?_⟩
                  simp only [if_true]
                  refine ⟨ra, _, F8, e8, R8, ?_⟩
                  try unfold bindM at h6
                  cases ee : el e8 with
                  | err =>
                    rw [ee] at h6
                    cases h6
                  | exc x e9 =>
                    rw [ee] at h6
                    cases h6
                  | ok yy e9 =>
                    rw [ee] at h6
                    simp only at h6
                    intro yv F9 H9 s9 R9 ry
                    unfold small at h6
                    by_cases hz : (dacc6 ++ [yy]).length ≤ 1000000
                    · simp only [if_pos hz] at h6
                      have st : Same F6 F9 := (s7.trans s8).trans s9
                      have rA : RepA w K ra F9 acc6 dacc6 := ra6.mono st
                      have hD9 : H9 D = some (.lst acc6) := R9.kh D _ (by show upd HK.h D _ D = _; exact upd_same)
                      have l1 : acc6.length < sizeLine := by
                        rw [rA.length]
                        rw [List.length_append] at hz
                        have : (1000000 : Nat) ≤ sizeLine := by decide
                        simp at hz
                        omega
                      have R10 := (R9.repin (u' := .lst (acc6 ++ [yv]))).wipe vs1
                      rw [hw8] at R10
                      exact ⟨acc6, hD9, l1, F9, _, acc6 ++ [yv], dacc6 ++ [yy], s6.trans st, R10, rA.append (.cons ry .nil), Nat.le_trans hz (by decide), h6⟩
                    · simp only [if_neg hz] at h6
                      cases h6
              · have ej : j = ds1.length := by omega
                subst ej
                rw [List.drop_length] at h6
                unfold lc2In pureM at h6
                cases h6
                refine .inl ⟨ok1.stop _ F6 H6 s6 R6.fh rfl, F6, _, acc6, _, (sf4.trans s5).trans s6, ?_, ra6, hz6, h2⟩
                have R7 := R6.wipe vs
                rw [wipe_sub hv, hw4] at R7
                exact R7
      · have ei : i = ds.length := by omega
        subst ei
        rw [List.drop_length] at h2
        unfold lc2Go pureM at h2
        cases h2
        obtain ⟨R3, fD, nD, hD2, nd⟩ := R2.unpin kD hpn
        refine .inl ⟨ok.stop _ F2 H2 s2 R2.fh rfl, ?_⟩
        have R4 := R3.rest R1 s2 hn
        refine q _ F2 H2 (s1.trans s2) R4 ⟨D, rfl, ⟨acc, hD2, ra2⟩, fD, kD, nD, notIn_rest nd hn⟩
  · simp only [if_neg hn] at q
    exact q.elim
section
variable {X : Cx} {W : WX} {elt tg iter tg1 iter1 : Expr} {scope : Scope} {pos : Pos} {mi mi1 : M (List D)} {g g1 : D → M Unit} {el : M D} {is is1 : List Nat}
theorem psm_setLc2 (i : Nat) {y : Str} {py spos : Pos} (hi : PIM X W tg iter mi)
    (hg : ∀ (s : Shared) (H : Hp) (C : Addr) (cl : List (Str × Addr)) (fp : List Addr), PGM (X.blk s H scope (compEnvC scope cl C X.env) fp) tg is g)
    (hi1 : ∀ (s : Shared) (H : Hp) (C : Addr) (cl : List (Str × Addr)) (fp : List Addr), PIM (X.blk s H scope (compEnvC scope cl C X.env) fp) WN tg1 iter1 mi1)
    (hg1 : ∀ (s : Shared) (H : Hp) (C : Addr) (cl : List (Str × Addr)) (fp : List Addr), PGM (X.blk s H scope (compEnvC scope cl C X.env) fp) tg1 is1 g1)
    (he : ∀ (s : Shared) (H : Hp) (C : Addr) (cl : List (Str × Addr)) (fp : List Addr), PM (X.blk s H scope (compEnvC scope cl C X.env) fp) WN elt el) (hc : X.calm = true) (hN : X.N.Nodup) (own : List (Str × Nat)) (vs1 : List Nat) (ok : blkC X.N X.env.scope scope own = true := by rfl) (hsub : ∀ i ∈ is, i ∈ own.map (·.2) := by decide) (hsub1 : ∀ i ∈ is1, i ∈ vs1 := by decide) (hv : ∀ i ∈ vs1, i ∈ own.map (·.2) := by decide)
    (hy : X.N[i]? = some y := by rfl) (hyl : X.env.scope.names.lookup y = some .local := by rfl)
    (hsw : swapsWith (.ListComp elt [⟨tg, iter, [], 0⟩, ⟨tg1, iter1, [], 0⟩] scope pos) (some (.Name y py)) spos.line X.env = pure true := by rfl) (hs : ∀ x, foldedSetIterable iter X.env x = pure x := by intro _; rfl) (hs1 : ∀ env x, foldedSetIterable iter1 env x = pure x := by intro _ _; rfl) :
    PSM X W (.Assign [.Name y py] (.ListComp elt [⟨tg, iter, [], 0⟩, ⟨tg1, iter1, [], 0⟩] scope pos) spos) (asgO i (lc2M mi g mi1 g1 el (own.map (·.2)) vs1)) := by
  refine PS.weaken (ps_setLc2 (g := tT X.w X.K is g) (tt := tYes) (wi1 := tI X.w X.K WN mi1) (g1 := tT X.w X.K is1 g1) (tt1 := tYes) (te := tG TV X.w X.K WN el) hc hN hy hyl hsw hi (blkOk_by ok) hv hg (fun _ _ _ _ _ => pts_nil) hi1 hg1 (fun _ _ _ _ _ => pts_nil) he hs hs1) ?_
  rintro D' σ H ⟨ra, HK, F, e, R, h⟩
  unfold asgO at h
  refine lc2_read hsub hsub1 hv (stepS R h fun F1 e1 o v H1 s1 R1 r1 q1 => ?_)
  obtain ⟨h1, q2⟩ := wp_setM q1
  exact q2 _ F1 H1 (Same.refl F1) (R1.setOwn h1 r1)
end
end Mi

set_option Elab.async false
set_option linter.all false
set_option maxRecDepth 100000
set_option maxHeartbeats 4000000
/-! Mirrors, part M3: isinstance(x, (T, U)); sorted(set(t)), t a tuple of numbers. -/
namespace Mi
open PySem PySem.Spec PyProof.Rows L2
def isi2F (a b : String) (d : D) : Option D := match d with
  | .obj _ => none
  | d => (d.ty.bind fun t => (kitB t a).bind fun x => (kitB t b).map fun y => x || y).map D.bl
theorem kit_two {K : PySem.W.Frag} {t a b : String} {x y : Bool} (h1 : kitB t a = some x) (h2 : kitB t b = some y) : PySem.W.kitAny K (.type t) [.type a, .type b] = some (x || y) := by
  have k1 := kit_ty (K := K) h1
  have k2 := kit_ty (K := K) h2
  refine kitAny_cons k1 (fun e => ?_) (fun e => by rw [e]; rfl)
  subst e
  refine kitAny_cons k2 (fun e => ?_) (fun e => by rw [e]; rfl)
  subst e
  exact kitAny_nil
def rIsiDT (w : World) (K : PySem.W.Frag) : List V → Hp → VK → Prop := fun xs H Q => ∃ (a tp : Addr) (es : List (NestedKey × V × V)) (cs : List V) (us : List Value) (b : Bool), xs = [.ref a, .ref tp] ∧ H tp = some (.tup cs) ∧ Paired ClsV cs us ∧ DictAt w H a es ∧ PySem.W.kitAny K (.type "dict") us = some b ∧ Q (.bl b) H
section
variable {X : Cx} {W : WX} {a : Expr} {ma : M Ref} {pos : Pos}
theorem call_isiDT : CallR X (.builtin "isinstance") (rIsiDT X.w X.K) := by
  intro pins s σ H xs us Q I r h
  obtain ⟨a, tp, es, cs, ws, b, rfl, hT, k, ha, e, q⟩ := h
  obtain ⟨u1, u2, rfl, r1, r2⟩ := vals2 r
  cases r1
  cases (show u2 = Value.ref tp from r2)
  obtain ⟨_, _, _, _, o, _, _, ho, hc, _⟩ := inv_dictP I ha
  obtain ⟨_, its, rv, o', h1, h2, n, h3⟩ := (show ObjOk X.prog X.w H s.heap tp (.tup cs) from I.hok tp _ hT)
  have e3 := ClsV.all k rv
  subst e3
  obtain ⟨oc, od, dt, sl⟩ := o'
  simp only at h2 h3
  subst h2 h3
  exact PySem.W.kia_tup PySem.W.kitx_dict I.kIn ⟨o, ho, hc.1⟩ h1 e (fun z => nomatch z) fun tk => ⟨.bl b, H, I.tok tk, rfl, q⟩
theorem pm_isi2 {T U : Str} {n m : String} {p p2 p3 tpos : Pos} {tk : Nat} (hm : X.mg "isinstance" = none) (hv : bootBuiltins "isinstance" = some (.builtin "isinstance")) (hmT : X.mg T = none) (hvT : bootBuiltins T = some (.type n)) (hmU : X.mg U = none) (hvU : bootBuiltins U = some (.type m))
    (ha : PMR X W a ma) (hg : Gl X "isinstance" := by rfl) (hgT : Gl X T := by rfl) (hgU : Gl X U := by rfl) (hn : T ≠ "__name__" := by decide) (hd : (T == ("__debug__" : Str)) = false := by decide) (hn2 : U ≠ "__name__" := by decide) (hd2 : (U == ("__debug__" : Str)) = false := by decide)
    (ht1 : starEach [.Name T p2, .Name U p3] X.env = (false, eval (.Name T p2) X.env) :: starEach [.Name U p3] X.env := by rfl) (ht2 : starEach [.Name U p3] X.env = (false, eval (.Name U p3) X.env) :: starEach [] X.env := by rfl)
    (hs2 : starEach [.Tuple [.Name T p2, .Name U p3] tk tpos] X.env = (false, eval (.Tuple [.Name T p2, .Name U p3] tk tpos) X.env) :: starEach [] X.env := by rfl)
    (hse : starEach [a, .Tuple [.Name T p2, .Name U p3] tk tpos] X.env = (false, eval a X.env) :: starEach [.Tuple [.Name T p2, .Name U p3] tk tpos] X.env := by rfl) : PM X W (.Call (.Name "isinstance" p) [a, .Tuple [.Name T p2, .Name U p3] tk tpos] [] pos) (op1M ma (isi2F n m)) := by
  refine PE.weaken (pe_callB (CallR.or' call_isiT call_isiDT) hg hm hv (pa_cons ha (pa_cons (pe_tup (pa_cons (pe_bltn (v := .ty n) hgT hmT hvT rfl hn hd) (pa_cons (pe_bltn (v := .ty m) hgU hmU hvU rfl hn2 hd2) pa_nil ht2) ht1)) pa_nil hs2) hse) (by decide) (by decide) hse rfl) ?_
  rintro σ H Q ⟨ra, HK, F, e, R, hw⟩
  unfold op1M at hw
  refine stepG R hw fun F1 e1 x v H1 s1 R1 r1 q1 => ?_
  refine ⟨by show 2 ≤ sizeLine; decide, fun tp hp => ?_⟩
  have R2 := R1.grow hp (.tup [.ty n, .ty m])
  obtain ⟨d, hd, q2, _⟩ := R2.deref r1 q1
  unfold liftO at q2
  have hcs : Paired ClsV [.ty n, .ty m] [Value.type n, Value.type m] := .cons (.ty n) (.cons (.ty m) .nil)
  cases ez : isi2F n m d with
  | none =>
    rw [ez] at q2
    exact q2.elim
  | some z =>
    rw [ez] at q2
    obtain ⟨t, x1, y1, h1, h2, h3, rfl⟩ : ∃ t x1 y1, d.ty = some t ∧ kitB t n = some x1 ∧ kitB t m = some y1 ∧ z = .bl (x1 || y1) := by
      have e2 : (d.ty.bind fun t => (kitB t n).bind fun x => (kitB t m).map fun y => x || y).map D.bl = some z := by
        cases d with
        | obj l => cases ez
        | _ => exact ez
      cases ht : d.ty with
      | none =>
        rw [ht] at e2
        cases e2
      | some t =>
        rw [ht] at e2
        cases h1 : kitB t n with
        | none =>
          simp [h1] at e2
        | some x1 =>
          cases h2 : kitB t m with
          | none => simp [h1, h2] at e2
          | some y1 =>
            refine ⟨t, x1, y1, rfl, h1, h2, ?_⟩
            simp [h1, h2] at e2
            exact e2.symm
    by_cases hdc : ∃ l, d = .dct l
    · obtain ⟨l, rfl⟩ := hdc
      cases h1
      obtain ⟨b, es, da⟩ := hd.dat R2.fh
      obtain ⟨rfl, _, hb, _⟩ := da
      exact .inr ⟨b, tp, es, _, _, _, rfl, upd_same, hcs, hb, kit_two h2 h3, q2 _ F1 _ (Same.refl F1) R2 (.bl _)⟩
    · exact .inl ⟨v, tp, _, .type t, _, _, rfl, upd_same, hcs, hd.tyd R2.fh h1 (fun l z => hdc ⟨l, z⟩), kit_two h2 h3, q2 _ F1 _ (Same.refl F1) R2 (.bl _)⟩
end
/-! ### sorted(set(t)) -/
def insI (k : Int) : List Int → List Int
  | [] => [k]
  | x :: l => if k < x then k :: x :: l else if k = x then x :: l else x :: insI k l
def sortU (ns : List Int) : List Int := ns.foldr insI []
theorem insI_mem (k : Int) : ∀ (l : List Int) (x : Int), x ∈ insI k l ↔ x = k ∨ x ∈ l
  | [], x => by simp [insI]
  | y :: l, x => by
    unfold insI
    by_cases c : k < y
    · rw [if_pos c]
      simp
    · rw [if_neg c]
      by_cases d : k = y
      · rw [if_pos d]
        subst d
        simp
      · rw [if_neg d, List.mem_cons, insI_mem k l x, List.mem_cons]
        constructor
        · rintro (h | h | h)
          · exact .inr (.inl h)
          · exact .inl h
          · exact .inr (.inr h)
        · rintro (h | h | h)
          · exact .inr (.inl h)
          · exact .inl h
          · exact .inr (.inr h)
theorem insI_pw (k : Int) : ∀ {l : List Int}, l.Pairwise (· < ·) → (insI k l).Pairwise (· < ·)
  | [], _ => List.pairwise_singleton _ _
  | y :: l, h => by
    obtain ⟨h1, h2⟩ := List.pairwise_cons.mp h
    unfold insI
    by_cases c : k < y
    · rw [if_pos c]
      refine List.pairwise_cons.mpr ⟨fun x hx => ?_, h⟩
      rcases List.mem_cons.mp hx with rfl | hx
      · exact c
      · have := h1 x hx
        omega
    · rw [if_neg c]
      by_cases d : k = y
      · rw [if_pos d]
        exact h
      · rw [if_neg d]
        refine List.pairwise_cons.mpr ⟨fun x hx => ?_, insI_pw k h2⟩
        rcases (insI_mem k l x).mp hx with rfl | hx
        · omega
        · exact h1 x hx
theorem sortU_mem (ns : List Int) (x : Int) : x ∈ sortU ns ↔ x ∈ ns := by
  unfold sortU
  induction ns with
  | nil => simp
  | cons k ns ih => rw [List.foldr_cons, insI_mem, ih, List.mem_cons]
theorem sortU_pw (ns : List Int) : (sortU ns).Pairwise (· < ·) := by
  unfold sortU
  induction ns with
  | nil => exact .nil
  | cons k ns ih =>
    rw [List.foldr_cons]
    exact insI_pw k ih
theorem pw_eq {a b : List Int} (ha : a.Pairwise (· < ·)) (hb : b.Pairwise (· < ·)) (h : ∀ x, x ∈ a ↔ x ∈ b) : a = b := by
  have na : a.Nodup := ha.imp fun {x y} q e => by omega
  have nb : b.Nodup := hb.imp fun {x y} q e => by omega
  exact List.Perm.eq_of_pairwise (le := (· < ·)) (fun x y _ _ q1 q2 => by omega) ha hb ((List.perm_ext_iff_of_nodup na nb).mpr h)
def setHO (w : World) (p : Addr) (S : Int → Bool) (n : Nat) : HO := .ext fun h => SetR w h p S n
theorem setHO_ok {P : Program} {w : World} {H : Hp} {h : Heap} {p : Addr} {S : Int → Bool} {n : Nat} (r : SetR w h p S n) : ObjOk P w H h p (setHO w p S n) := by
  refine ⟨r, ?_, ?_⟩
  · obtain ⟨o, _, _, _, ho, _⟩ := r
    exact ⟨o, ho⟩
  · rintro h1 h2 ⟨o, es, ep, t, ho, rest⟩ k
    exact ⟨o, es, ep, t, k _ ho, rest⟩
def rSetI (w : World) (K : PySem.W.Frag) : List V → Hp → VK → Prop := fun xs H Q => ∃ (t : Addr) (ns : List Int), xs = [.ref t] ∧ SqT K H t (ns.map V.int) ∧ ns.length < 64 ∧ ∀ p c, H p = none → c ≤ ns.length → Q (.ref p) (upd H p (setHO w p (fun j => decide (j ∈ ns)) c))
def rSortS (w : World) : List V → Hp → VK → Prop := fun xs H Q => ∃ (a : Addr) (S : Int → Bool) (n : Nat), xs = [.ref a] ∧ H a = some (setHO w a S n) ∧ n < 64 ∧ ∀ (q : Addr) (ns : List Int), H q = none → ns.Pairwise (· < ·) → (∀ k, k ∈ ns ↔ S k = true) → Q (.ref q) (upd H q (.lst (ns.map V.int)))
section
variable {X : Cx}
theorem cr_setI (hc : X.calm = true) : CallR X (.type "set") (rSetI X.w X.K) := by
  intro pins s σ H xs us Q I r h
  obtain ⟨t, ns, rfl, hT, hn, q⟩ := h
  rw [Vals.ref1 r]
  obtain ⟨its, rv, hl, _⟩ := I.tuple hT
  refine call_set_tupI ns (I.ok.hd hc) hl (by simpa using rv.ints) (Nat.lt_of_lt_of_le (show ns.length + 1 < 66 by omega) (by decide +kernel)) fun h' tk c R hcn k => ?_
  exact ⟨.ref s.heap.objs.size, upd H s.heap.objs.size (setHO X.w s.heap.objs.size _ c), I.laid (t' := tk) k (Nat.le_refl _) (setHO_ok R), rfl, q _ c (I.hok.fresh (Nat.le_refl _)) hcn⟩
theorem cr_sortS (hc : X.calm = true) : CallR X (.builtin "sorted") (rSortS X.w) := by
  intro pins s σ H vs us Q I r h
  obtain ⟨a, S, n, rfl, ha, hn, q⟩ := h
  have R : SetR X.w s.heap a S n := (show ObjOk X.prog X.w H s.heap a (setHO X.w a S n) from I.hok a _ ha).1
  rw [Vals.ref1 r]
  refine sorted_set R (I.ok.hd hc) hn fun s' p out c ns k g o hp hg hout pw hm hl => ?_
  have hlen : (ns.map V.int).length ≤ sizeLine := by rw [List.length_map, hl, sizeLine_eq]; omega
  have hz : H p = none := I.hok.fresh hp
  have J : Inv X pins σ (upd H p (.lst (ns.map V.int))) { s with heap := s'.heap, gens := s'.gens, drawn := s'.drawn, toks := s'.toks } :=
    I.call (ch := []) (Un.laid k hp hz) (I.hok.laid k hp ⟨hlen, out.toList, c, vals_of_ints hout, by rw [Array.toArray_toList]; exact hg⟩) (by rw [g]; exact I.bare) (fun _ z => nomatch z)
  have e : s' = { s with heap := s'.heap, gens := s'.gens, drawn := s'.drawn, toks := s'.toks } := by
    cases s'
    cases s
    cases o
    rfl
  rw [e]
  exact ⟨.ref p, _, J, rfl, q p ns hz pw hm⟩
end
def sortSF (d : D) : Option OD := match d with
  | .tup l => (match intsOf l with
    | some ns => if ns.length < 64 then some (.lst ((sortU ns).map D.int)) else none
    | none => none)
  | _ => none
theorem RepA.mkInts {w : World} {K : PySem.W.Frag} {ra : Addr} {F : Hp} : ∀ ns : List Int, RepA w K ra F (ns.map V.int) (ns.map D.int)
  | [] => .nil
  | n :: ns => .cons (.int n) (RepA.mkInts ns)
section
variable {X : Cx} {W : WX} {a : Expr} {ma : M Ref} {pos : Pos}
theorem pmo_sortS {p p2 pos2 : Pos} (hm : X.mg "sorted" = none) (hm2 : X.mg "set" = none) (hv2 : bootBuiltins "set" = some (.type "set")) (ha : PMR X W a ma) (hc : X.calm = true := by rfl) (hg : Gl X "sorted" := by rfl) (hg2 : Gl X "set" := by rfl) (hse2 : starEach [a] X.env = (false, eval a X.env) :: starEach [] X.env := by rfl)
    (hse : starEach [.Call (.Name "set" p2) [a] [] pos2] X.env = (false, eval (.Call (.Name "set" p2) [a] [] pos2) X.env) :: starEach [] X.env := by rfl) : PMO X W (.Call (.Name "sorted" p) [.Call (.Name "set" p2) [a] [] pos2] [] pos) (op1O ma sortSF) := by
  refine PE.weaken (pe_callB (cr_sortS hc) hg hm PyProof.Rows.boot_sorted (pa_cons (pe_callTy (cr_setI hc) hg2 hm2 hv2 (pa_cons ha pa_nil hse2) (by decide) (by decide) hse2 rfl) pa_nil hse) (by decide) (by decide) hse rfl) ?_
  rintro σ H Q ⟨ra, HK, F, e, R, hw⟩
  unfold op1O at hw
  refine stepG R hw fun F1 e1 x v H1 s1 R1 r1 q1 => ?_
  obtain ⟨d, hd, q2, _⟩ := R1.deref r1 q1
  cases d with
  | tup l =>
    unfold liftO sortSF at q2
    simp only at q2
    cases ei : intsOf l with
    | none =>
      rw [ei] at q2
      exact q2.elim
    | some ns =>
      rw [ei] at q2
      simp only at q2
      by_cases c : ns.length < 64
      · rw [if_pos c] at q2
        obtain rfl := intsOf_ok ei
        obtain ⟨t, vs, rfl, h1, h2⟩ := hd.tup R1.fh
        rw [RepA.ints h2] at h1
        refine ⟨t, ns, rfl, h1, c, fun p n hp hn => ?_⟩
        have R2 := R1.grow hp (setHO X.w p (fun j => decide (j ∈ ns)) n)
        refine ⟨p, _, n, rfl, upd_same, by omega, fun q ns' hq pw hmm => ?_⟩
        have e0 : ns' = sortU ns := pw_eq pw (sortU_pw ns) fun k => by
          rw [hmm k, sortU_mem]
          simp
        rw [← e0] at q2
        obtain ⟨f1, f2, f3, f4⟩ := fresh_own R2 hq (o := .lst (ns'.map D.int)) (.inr trivial)
        exact q2 _ F1 _ (Same.refl F1) (R2.grow hq _) ⟨q, rfl, ⟨_, upd_same, RepA.mkInts ns'⟩, f1, f2, f3, f4⟩
      · rw [if_neg c] at q2
        exact q2.elim
  | _ => exact q2.elim
end
end Mi

set_option Elab.async false
set_option linter.all false
set_option maxRecDepth 100000
set_option maxHeartbeats 4000000
/-! Mirrors, part M4: dict comprehensions, the keys nested or numbers. -/
namespace Mi
open PySem PySem.Spec PyProof.Rows L2
section
variable {X : Cx}
/-- {k: v for target in iter if ..}: D the new dict -/
def tDcN (w : World) (K : PySem.W.Frag) (wi : TI) (g : TG) (tt : TT) (tk tv : TE) (vs : List Nat) : TE := fun σ H Q => wi σ H fun J H1 => ∀ D, H1 D = none → (D == sysModules) = false → ∃ W : Nat → Nat → Hp → Prop, (∃ m, W 0 m (upd H1 D (objO D emptyD))) ∧ ∀ i m H, W i m H →
  (J.stop i H ∧ Q (.ref D) H) ∨ (J.go i H ∧ ∃ Nx : Hp → Prop, (∀ H', Nx H' → ∃ m', m' < m ∧ W (i + 1) m' H') ∧ ∀ x H', J.yld i H x H' → g x (wipe σ vs) H' fun σ2 H2 => wipe σ2 vs = wipe σ vs ∧ tt σ2 H2 fun b H3 =>
    if b = true then tk σ2 H3 fun y H4 => tv σ2 H4 fun z H5 => ∃ ra F es kvs dk k, Same F H5 ∧ DictAt w H5 D es ∧ RepE w K ra F es kvs ∧ Rep w K ra F y dk ∧ kindOk kvs dk = true ∧ dk.hk = some k ∧ es.length < sizeLine ∧ ∀ o, DF w D (eput es k y z) o → Nx (upd H5 D (objO D o)) else Nx H3)
theorem dcN_core {pins : List (Addr × Obj)} {s : Shared} {σ : L2.St} {H : Hp} {Q : VK} {kx vx tg iter : Expr} {ifs : List Expr} {scope : Scope} {own : List (Str × Nat)} {pos pos' : Pos} {wi : TI} {g : TG} {tt : TT} {tk tv : TE} {use : Option (Value → Sem Unit)} {Qf : Value → Shared → Prop} (hu : X.A.units + 64 < cLine)
    (hc : X.calm = true) (hN : X.N.Nodup) (I : Inv X pins σ H s) (hi : PI X tg iter wi) (ok : BlkOk X.N X.env.scope scope own)
    (hg : ∀ (s : Shared) (H : Hp) (C : Addr) (cl : List (Str × Addr)) (fp : List Addr), PG (X.blk s H scope (compEnvC scope cl C X.env) fp) tg g) (ht : ∀ (s : Shared) (H : Hp) (C : Addr) (cl : List (Str × Addr)) (fp : List Addr), PTs (X.blk s H scope (compEnvC scope cl C X.env) fp) ifs tt)
    (hk : ∀ (s : Shared) (H : Hp) (C : Addr) (cl : List (Str × Addr)) (fp : List Addr), PE (X.blk s H scope (compEnvC scope cl C X.env) fp) kx tk)
    (he : ∀ (s : Shared) (H : Hp) (C : Addr) (cl : List (Str × Addr)) (fp : List Addr), PE (X.blk s H scope (compEnvC scope cl C X.env) fp) vx tv) (hs : ∀ x, foldedSetIterable iter X.env x = pure x)
    (h : tDcN X.w X.K wi g tt tk tv (own.map (·.2)) σ H Q)
    (hRR : ∀ D C s' m H', Inv X pins σ H' s' → Q (.ref D) H' → s'.heap.Ns C m → FpOk X pins H' C → compPost (model X.prog X.w) X.A X.xe use Qf (.ref D) C (.ok .next) s') :
    wpAny (model X.prog X.w) X.A (comprehension (.DictComp kx vx [⟨tg, iter, ifs, 0⟩] scope pos) scope X.env pos' newDict false (eval iter X.env) use) Qf X.xe s := by
  have free_ : ∀ y ∈ scope.names, y.2 = .free → ∃ c, X.env.cells.lookup y.1 = some c := fun y hy e => by
    rcases ok.free y hy e with k | k
    · exact I.ok.has _ (.inl k)
    · exact I.ok.has _ (.inr k)
  refine wpAny_comprehension_free (use := use) rfl hs (closure_ok free_) ok.kind (fun y hy e => by rw [ok.uniq y hy, e])
    (thn (hi.run pins s σ H _ I h) fun xv s1 hx => thn hx fun itv s2 h2 => ?_)
  obtain ⟨it, fp, tn, J, H2, e, I2, T, st2, f2, q⟩ := h2
  subst e
  refine wpAny_newObj_type (newEnv_comp ?_)
  have hsm := big_ne I2
  generalize hD : s2.heap.objs.size = D at hsm
  have hDn : H2 D = none := I2.hok.fresh (Nat.le_of_eq hD)
  obtain ⟨W, ⟨m0, w0⟩, turn⟩ := q D hDn hsm
  generalize hs3 : ({ s2 with heap := s2.heap.push { cls := .type "dict", data := .dict #[] } } : Shared) = s3
  have I3 : Inv X pins σ (upd H2 D (objO D emptyD)) s3 := by
    rw [← hs3, ← hD]
    exact laidO I2
  have h3 : s3.heap = s2.heap.push { cls := .type "dict", data := .dict #[] } := by rw [← hs3]
  have sz : ∀ b ∈ fp, b < s2.heap.objs.size := fun b hb => by
    obtain ⟨o, e, _⟩ := T.obj _ _ st2 b hb
    exact Heap.lt_size e
  have f3 : ∀ b ∈ fp, FpOk X pins (upd H2 D (objO D emptyD)) b ∧ b < s3.heap.objs.size := fun b hb => by
    have hlt := sz b hb
    refine ⟨⟨?_, (f2 b hb).2⟩, by rw [h3, Heap.size_push]; exact Nat.lt_succ_of_lt hlt⟩
    rw [upd_ne (by rw [← hD]; exact Nat.ne_of_lt hlt)]
    exact (f2 b hb).1
  have st3 : tn 0 s3.heap := T.keep _ _ _ st2 fun b _ o e => by rw [h3]; exact Heap.get?_push_of_some _ e
  have I4 := block_start I3 ok hN f3
  generalize hH3 : upd H2 D (objO D emptyD) = H3 at I3 I4 w0 f3
  have pg := hg s3 H3 s3.heap.objs.size (cellsFrom (s3.heap.objs.size + 1) scope.names (cloFrom X.env.cells scope.names [])) fp
  have pt := ht s3 H3 s3.heap.objs.size (cellsFrom (s3.heap.objs.size + 1) scope.names (cloFrom X.env.cells scope.names [])) fp
  have pk := hk s3 H3 s3.heap.objs.size (cellsFrom (s3.heap.objs.size + 1) scope.names (cloFrom X.env.cells scope.names [])) fp
  have pv := he s3 H3 s3.heap.objs.size (cellsFrom (s3.heap.objs.size + 1) scope.names (cloFrom X.env.cells scope.names [])) fp
  show codeAny _ _ (.compStart (.DictComp kx vx [⟨tg, iter, ifs, 0⟩] scope pos) 0 (.ref it) (.ref D) (compEnvC scope (cellsFrom (s3.heap.objs.size + 1) scope.names (cloFrom X.env.cells scope.names [])) s3.heap.objs.size X.env)) (compPost (model X.prog X.w) X.A X.xe use Qf (.ref D) s3.heap.objs.size) { s3 with heap := pushCells (s3.heap.push { cls := .type "dict", data := .dict #[] }) scope.names }
  have nfp : ∀ b ∈ fp, H3 b = none := fun b hb => (f3 b hb).1.1
  generalize hce : compEnvC scope (cellsFrom (s3.heap.objs.size + 1) scope.names (cloFrom X.env.cells scope.names [])) s3.heap.objs.size X.env = ce at I4 pg pt pk pv ⊢
  have cL : ce.locals = s3.heap.objs.size := by subst hce; rfl
  generalize hs4 : ({ s3 with heap := pushCells (s3.heap.push { cls := .type "dict", data := .dict #[] }) scope.names } : Shared) = s4 at I4 ⊢
  have st4 : tn 0 s4.heap := T.keep _ _ _ st3 fun b _ o e => by rw [← hs4]; exact pushCells_keeps _ _ _ _ (Heap.get?_push_of_some _ e)
  have stat : ∀ {σ' : L2.St} {H' : Hp} {s' : Shared}, Inv (X.blk s3 H3 scope ce fp) [] σ' H' s' → (∀ b ∈ fp, H' b = none) → ∀ b ∈ fp, FpOk (X.blk s3 H3 scope ce fp) [] H' b := fun {σ' H' s'} I' hn b hb =>
    ⟨hn b hb, (I'.ok.exf b hb).1, I'.ok.exfs b hb, .inl hb, fun x c e => (I'.ok.exf b hb).2 x c e, fun p hp => absurd (show p ∈ ([] : List (Addr × Obj)) ++ [] from hp) (by simp)⟩
  have loop : codeAny (model X.prog X.w) X.A (.compLoop (.DictComp kx vx [⟨tg, iter, ifs, 0⟩] scope pos) 0 (.ref it) (.ref D) ce) (compPost (model X.prog X.w) X.A X.xe use Qf (.ref D) s3.heap.objs.size) s4 := by
    refine compLoop_anyD (fun n s' => ∃ i H', Inv (X.blk s3 H3 scope ce fp) [] (wipe σ (own.map (·.2))) H' s' ∧ tn i s'.heap ∧ (∀ b ∈ fp, H' b = none) ∧ W i n H') ?_ m0 ⟨0, H3, I4, st4, nfp, w0⟩
    rintro n s5 ⟨i, H5, I5, st5, n5, w5⟩
    rcases turn i n H5 w5 with ⟨stop, qq⟩ | ⟨go, Nx, hNx, step⟩
    · have td := T.done (X.blk s3 H3 scope ce fp) rfl rfl rfl hc i [] s5 _ H5 (fun _ _ => False) I5 (stat I5 n5) st5 stop
      refine thnF td fun r s6 ⟨hr, I6⟩ => ?_
      subst hr
      have I7 : Inv X pins σ H5 s6 := I3.call' (ch := fp) I6.os I6.base I6.hok I6.bare fun b hb => ⟨(f3 b hb).1.2.2.2.1, (f3 b hb).1.2.1, (f3 b hb).1.2.2.2.2.1, (f3 b hb).1.2.2.2.2.2⟩
      have nC : H5 s3.heap.objs.size = none := by
        have z : H5 ce.locals = none := I6.free
        rw [cL] at z
        exact z
      obtain ⟨m, hn, _⟩ := I6.loc
      have hn : s6.heap.Ns ce.locals m := hn
      rw [cL] at hn
      exact hRR D s3.heap.objs.size s6 m H5 I7 qq hn (I3.fpOk (Nat.le_refl _) nC)
    · have ti := T.item (X.blk s3 H3 scope ce fp) rfl rfl rfl hc i [] s5 _ H5 (fun _ _ => False) I5 (stat I5 n5) st5 go
      refine thnF ti fun r s6 ⟨u, hr, h6⟩ => ?_
      subst hr
      refine thnF h6 fun _ s7 ⟨x, H7, I7, r7, y7, st7, n7⟩ => ?_
      have I7' := I7.pinned (stat I7 n7) (T.obj _ _ st7)
      refine thnF (pg.run _ s7 _ H7 x u _ I7' r7 (step x H7 y7)) fun _ s8 ⟨σ8, H8, I8, hw8, q8⟩ => ?_
      refine thnF (pt.run _ s8 σ8 H8 _ I8 q8) fun b s9 ⟨H9, I9, q9⟩ => ?_
      have fin : ∀ {s' : Shared} {H' : Hp}, Inv (X.blk s3 H3 scope ce fp) ([] ++ pinsAt fp s7.heap) σ8 H' s' → Nx H' → ∃ m, m < n ∧ ∃ i H', Inv (X.blk s3 H3 scope ce fp) [] (wipe σ (own.map (·.2))) H' s' ∧ tn i s'.heap ∧ (∀ b ∈ fp, H' b = none) ∧ W i m H' := fun {s' H'} I' nx => by
        obtain ⟨m', hm, w'⟩ := hNx H' nx
        have pin' : ∀ b ∈ fp, ∀ o, s7.heap.get? b = some o → s'.heap.get? b = some o ∧ H' b = none := fun b hb o e =>
          let z := I'.pin (b, o) (List.mem_append_right _ (List.mem_append_right _ (mem_pinsAt hb e)))
          ⟨z.1, z.2.1⟩
        have hl : (wipe σ (own.map (·.2))).length = σ8.length := by rw [← hw8, wipe_length]
        refine ⟨m', hm, i + 1, H', (I'.unpinned (pins := [])).weak hl (fun j v e => ?_), T.keep _ _ _ st7 fun b hb o e => (pin' b hb o e).1, fun b hb => ?_, w'⟩
        · rw [← hw8] at e
          exact (L2.wipe_some e).1
        · obtain ⟨o, e, _⟩ := T.obj _ _ st7 b hb
          exact (pin' b hb o e).2
      cases b with
      | false =>
        simp only [Bool.false_eq_true, if_false] at q9 ⊢
        exact fin I9 q9
      | true =>
        simp only [if_true] at q9 ⊢
        refine thnF (pk.run _ s9 σ8 H9 _ I9 q9) fun z s10 ⟨yk, H10, I10, r10, q10⟩ => ?_
        refine thnF (pv.run _ s10 σ8 H10 _ I10 q10) fun z2 s11 ⟨yv, H11, I11, r11, ra, F, es, kvs, dk, k, fh, at_, re, rd, hk0, ek, hz, nx⟩ => ?_
        exact d_dictSetN (X := X.blk s3 H3 scope ce fp) hu I11 fh at_ re rd hk0 ek hz r10 r11 fun s12 o df I12 => fin I12 (nx o df)
  exact codeAny_compStart_dict loop (T.self X.A 0 _ _ _ st4 loop)
theorem pe_dcN {kx vx tg iter : Expr} {ifs : List Expr} {scope : Scope} {own : List (Str × Nat)} {pos : Pos} {wi : TI} {g : TG} {tt : TT} {tk tv : TE} (hu : X.A.units + 64 < cLine) (hc : X.calm = true) (hN : X.N.Nodup) (hi : PI X tg iter wi) (ok : BlkOk X.N X.env.scope scope own)
    (hg : ∀ (s : Shared) (H : Hp) (C : Addr) (cl : List (Str × Addr)) (fp : List Addr), PG (X.blk s H scope (compEnvC scope cl C X.env) fp) tg g) (ht : ∀ (s : Shared) (H : Hp) (C : Addr) (cl : List (Str × Addr)) (fp : List Addr), PTs (X.blk s H scope (compEnvC scope cl C X.env) fp) ifs tt)
    (hk : ∀ (s : Shared) (H : Hp) (C : Addr) (cl : List (Str × Addr)) (fp : List Addr), PE (X.blk s H scope (compEnvC scope cl C X.env) fp) kx tk)
    (he : ∀ (s : Shared) (H : Hp) (C : Addr) (cl : List (Str × Addr)) (fp : List Addr), PE (X.blk s H scope (compEnvC scope cl C X.env) fp) vx tv) (hs : ∀ x, foldedSetIterable iter X.env x = pure x := by intro _; rfl) :
    PE X (.DictComp kx vx [⟨tg, iter, ifs, 0⟩] scope pos) (tDcN X.w X.K wi g tt tk tv (own.map (·.2))) := by
  refine ⟨fun pins s σ H Q I h => ?_⟩
  rw [arm_eval_DictComp]
  refine dcN_core hu hc hN I hi ok hg ht hk he hs h fun D C s' m H' I' q hn f => ⟨m, hn, fun h'' sb => ?_⟩
  obtain ⟨f0, f1, f2, f3, f4, f5⟩ := f
  exact ⟨.ref D, H', I'.turned (t' := s'.toks) (fun b o hb e => (sb.2 b hb).trans e) f0 f1 f3 f4 f5, rfl, q⟩
end
/-! ### the mirror -/
def dcGo (g : D → M Unit) (t : M Bool) (mk mv : M D) (vs : List Nat) : List D → List (D × D) → M (List (D × D))
  | [], acc => pureM acc
  | d :: ds, acc => bindM (g d) fun _ => bindM t fun c => if c = true then bindM mk fun y => bindM mv fun z => bindM (roomD acc y) fun _ => fun e => dcGo g t mk mv vs ds (dput acc y z) (wipeE e vs) else fun e => dcGo g t mk mv vs ds acc (wipeE e vs)
def dcRun (g : D → M Unit) (t : M Bool) (mk mv : M D) (vs : List Nat) (ds : List D) : M OD := fun e => if noOwn e.sl vs = true then (match dcGo g t mk mv vs ds [] (wipeE e vs) with
  | .ok l e' => .ok (.dct l) (restE e' e vs)
  | _ => .err) else .err
def dcM (mi : M (List D)) (g : D → M Unit) (t : M Bool) (mk mv : M D) (vs : List Nat) : M OD := bindM mi (dcRun g t mk mv vs)
theorem dc_read {w : World} {K : PySem.W.Frag} {W : WX} {mi : M (List D)} {g : D → M Unit} {t : M Bool} {mk mv : M D} {is vs : List Nat} (hsub : ∀ i ∈ is, i ∈ vs) {σ : L2.St} {H : Hp} {Q : VK} (h : tG TO w K W (dcM mi g t mk mv vs) σ H Q) :
    tDcN w K (tI w K W mi) (tT w K is g) (tG TB w K WN t) (tG TV w K WN mk) (tG TV w K WN mv) vs σ H Q := by
  obtain ⟨ra, HK, F, e, R, h⟩ := h
  unfold dcM at h
  refine ⟨ra, HK, F, e, R, wp_mono (wp_bind.mp h) (fun ds e1 q J F1 H1 s1 R1 ok => ?_) fun _ _ q => q⟩
  intro D hD hsm
  unfold dcRun at q
  by_cases hn : noOwn e1.sl vs = true
  · simp only [if_pos hn] at q
    cases eg : dcGo g t mk mv vs ds [] (wipeE e1 vs) with
    | err =>
      rw [eg] at q
      exact q.elim
    | exc x e' =>
      rw [eg] at q
      exact q.elim
    | ok l e' =>
      rw [eg] at q
      have kD : HK.h D = none := R1.kh.free hD
      have hpn : ∀ a, HK.pin a → HK.h a ≠ none := fun a ha => (R1.pn a ha).1
      refine ⟨fun i m H => m = ds.length - i ∧ i ≤ ds.length ∧ ∃ F2 e2 o es acc, Same F1 F2 ∧ Rel w K ra (pinD HK D (objO D o)) F2 e2 (wipe σ vs) H ∧ DF w D es o ∧ RepE w K ra F2 es acc ∧ dcGo g t mk mv vs (ds.drop i) acc e2 = .ok l e',
        ⟨ds.length, rfl, Nat.zero_le _, F1, _, emptyD, [], [], Same.refl F1, (R1.wipe vs).pinNew hD _, df_empty hsm, .nil, eg⟩, ?_⟩
      rintro i m H2 ⟨rfl, hil, F2, e2, o, es, acc, s2, R2, df2, re2, h2⟩
      by_cases hlt : i < ds.length
      · refine .inr ⟨ok.go i F2 H2 s2 R2.fh hlt, fun H' => ∃ F2 e2 o es acc, Same F1 F2 ∧ Rel w K ra (pinD HK D (objO D o)) F2 e2 (wipe σ vs) H' ∧ DF w D es o ∧ RepE w K ra F2 es acc ∧ dcGo g t mk mv vs (ds.drop (i + 1)) acc e2 = .ok l e',
          fun H' z => ⟨ds.length - (i + 1), by omega, rfl, hlt, z⟩, fun x H3 y => ?_⟩
        obtain ⟨d, F3, hd, s3, R3, r3⟩ := R2.turn ok s2 hlt y
        rw [drop_cons hd] at h2
        unfold dcGo bindM at h2
        refine ⟨ra, _, F3, e2, d, R3, r3, ?_⟩
        cases eg2 : g d e2 with
        | err =>
          rw [eg2] at h2
          cases h2
        | exc x e3 =>
          rw [eg2] at h2
          cases h2
        | ok u e3 =>
          rw [eg2] at h2
          simp only at h2
          intro σ4 F4 H4 b4 s4 R4
          have hw4 : wipe σ4 vs = wipe σ vs := by
            rw [b4.wiped hsub, wipe_sub fun i h => h]
          refine ⟨hw4, ra, _, F4, e3, R4, ?_⟩
          have sf4 := (s2.trans s3).trans s4
          cases et : t e3 with
          | err =>
            rw [et] at h2
            cases h2
          | exc x e5 =>
            rw [et] at h2
            cases h2
          | ok c e5 =>
            rw [et] at h2
            simp only at h2
            intro b F5 H5 s5 R5 hb
            have hb' : b = c := hb
            subst hb'
            cases b with
            | false =>
              simp only [Bool.false_eq_true, if_false] at h2 ⊢
              have R6 := R5.wipe vs
              rw [hw4] at R6
              exact ⟨F5, _, o, es, acc, sf4.trans s5, R6, df2, re2.mono ((s3.trans s4).trans s5), h2⟩
            | true =>
              simp only [if_true] at h2 ⊢
              refine ⟨ra, _, F5, e5, R5, ?_⟩
              try unfold bindM at h2
              cases ee : mk e5 with
              | err =>
                rw [ee] at h2
                cases h2
              | exc x e6 =>
                rw [ee] at h2
                cases h2
              | ok dk e6 =>
                rw [ee] at h2
                simp only at h2
                intro yv F6 H6 s6 R6 ry
                refine ⟨ra, _, F6, e6, R6, ?_⟩
                try unfold bindM at h2
                cases ev : mv e6 with
                | err =>
                  rw [ev] at h2
                  cases h2
                | exc x e7 =>
                  rw [ev] at h2
                  cases h2
                | ok dv e7 =>
                  rw [ev] at h2
                  simp only at h2
                  intro zv F7 H7 s7 R7 rz
                  try unfold bindM at h2
                  unfold roomD at h2
                  by_cases c : (keyOk acc dk && decide (acc.length < 1000000)) = true
                  · simp only [if_pos c] at h2
                    unfold keyOk at c
                    simp only [Bool.and_eq_true, decide_eq_true_eq] at c
                    obtain ⟨k, ek⟩ := some_of c.1.2
                    have st : Same F2 F7 := (((s3.trans s4).trans s5).trans s6).trans s7
                    have rA : RepE w K ra F7 es acc := re2.mono st
                    have hD7 : H7 D = some (objO D o) := R7.kh D _ (by show upd HK.h D _ D = _; exact upd_same)
                    have ry7 : Rep w K ra F7 yv dk := Rep.mono s7 ry
                    refine ⟨ra, F7, es, acc, dk, k, R7.fh, ⟨o, hD7, df2⟩, rA, ry7, c.1.1, ek, by rw [rA.length]; exact Nat.lt_of_lt_of_le c.2 (by decide), fun o' df' => ?_⟩
                    have R8 := (R7.repin (u' := objO D o')).wipe vs
                    rw [hw4] at R8
                    exact ⟨F7, _, o', _, _, ((sf4.trans s5).trans s6).trans s7, R8, df', rA.put ek ry7 rz, h2⟩
                  · simp only [if_neg c] at h2
                    cases h2
      · have ei : i = ds.length := by omega
        subst ei
        rw [List.drop_length] at h2
        unfold dcGo pureM at h2
        cases h2
        obtain ⟨R3, fD, nD, hD2, nd⟩ := R2.unpin kD hpn
        refine .inl ⟨ok.stop _ F2 H2 s2 R2.fh rfl, ?_⟩
        have R4 := R3.rest R1 s2 hn
        exact q _ F2 H2 (s1.trans s2) R4 ⟨D, rfl, ⟨es, ⟨o, hD2, df2⟩, re2⟩, fD, kD, nD, notIn_rest nd hn⟩
  · simp only [if_neg hn] at q
    exact q.elim
section
variable {X : Cx} {W : WX} {kx vx tg iter : Expr} {ifs : List Expr} {scope : Scope} {pos : Pos} {mi : M (List D)} {g : D → M Unit} {t : M Bool} {mk mv : M D} {is : List Nat}
theorem pmo_dc (hu : X.A.units + 64 < cLine) (hi : PIM X W tg iter mi)
    (hg : ∀ (s : Shared) (H : Hp) (C : Addr) (cl : List (Str × Addr)) (fp : List Addr), PGM (X.blk s H scope (compEnvC scope cl C X.env) fp) tg is g) (ht : ∀ (s : Shared) (H : Hp) (C : Addr) (cl : List (Str × Addr)) (fp : List Addr), PMTs (X.blk s H scope (compEnvC scope cl C X.env) fp) WN ifs t)
    (hk : ∀ (s : Shared) (H : Hp) (C : Addr) (cl : List (Str × Addr)) (fp : List Addr), PM (X.blk s H scope (compEnvC scope cl C X.env) fp) WN kx mk)
    (hv : ∀ (s : Shared) (H : Hp) (C : Addr) (cl : List (Str × Addr)) (fp : List Addr), PM (X.blk s H scope (compEnvC scope cl C X.env) fp) WN vx mv) (hc : X.calm = true) (hN : X.N.Nodup) (own : List (Str × Nat)) (ok : blkC X.N X.env.scope scope own = true := by rfl) (hsub : ∀ i ∈ is, i ∈ own.map (·.2) := by decide) (hs : ∀ x, foldedSetIterable iter X.env x = pure x := by intro _; rfl) :
    PMO X W (.DictComp kx vx [⟨tg, iter, ifs, 0⟩] scope pos) (dcM mi g t mk mv (own.map (·.2))) :=
  PE.weaken (pe_dcN (g := tT X.w X.K is g) (tt := tG TB X.w X.K WN t) (tk := tG TV X.w X.K WN mk) (tv := tG TV X.w X.K WN mv) hu hc hN hi (blkOk_by ok) hg ht hk hv hs) fun σ H Q h => dc_read hsub h
end
end Mi

set_option Elab.async false
set_option linter.all false
set_option maxRecDepth 100000
set_option maxHeartbeats 4000000
/-! Mirrors, part M5: dicts of one's own lists: d[k] = [], d[k].append(x), k in d; d[k] -= n. -/
namespace Mi
open PySem PySem.Spec PyProof.Rows L2
section
variable {w : World} {K : PySem.W.Frag} {ra : Addr} {HK : Kp} {F F' H H' : Hp} {e : Env} {σ : L2.St}
theorem RepB.ref {es : List (NestedKey × V × V)} {l : List (D × List D)} (r : RepB w K ra F H es l) : ∀ x ∈ es, ∃ b vs, x.2.2 = .ref b ∧ H b = some (.lst vs) := by
  induction r with
  | nil => exact fun x h => nomatch h
  | cons hk r hb ra' _ ih =>
    intro x h
    rcases List.mem_cons.mp h with rfl | h
    · exact ⟨_, _, rfl, hb⟩
    · exact ih x h
theorem RepB.snoc {es : List (NestedKey × V × V)} {l : List (D × List D)} {dk : D} {ds : List D} {k : NestedKey} {kv : V} {b : Addr} {vs : List V} (r : RepB w K ra F H es l) (h : dk.hk = some k) (h1 : Rep w K ra F kv dk) (h2 : H b = some (.lst vs)) (h3 : RepA w K ra F vs ds) : RepB w K ra F H (es ++ [(k, kv, .ref b)]) (l ++ [(dk, ds)]) := by
  induction r with
  | nil => exact .cons h h1 h2 h3 .nil
  | cons a b c d _ ih => exact .cons a b c d ih
end
/-! ### d[k] = [] -/
/-! ### d[k] of a dict of lists, the very list -/
section
variable {X : Cx}
end
/-! ### d[k].append(x) -/
/-! ### k in d -/
section
variable {X : Cx} {W : WX} {a : Expr} {ma : M Ref} {pos p : Pos} {x : Str}
end
/-! ### d[k] += n, d[k] -= n -/
section
variable {X : Cx} {W : WX}
end
end Mi

set_option Elab.async false
set_option linter.all false
set_option maxRecDepth 100000
set_option maxHeartbeats 4000000
/-! Mirrors, part M6: {k: [] for ..}. -/
namespace Mi
open PySem PySem.Spec PyProof.Rows L2
section
variable {w : World} {K : PySem.W.Frag} {ra : Addr} {HK HK' : Kp} {P P' F F' H H' : Hp} {e e' : Env} {σ : L2.St}
theorem SlotOk.kp {ov : Option (Option V)} {s : Slot} (h : SlotOk w K ra HK F H ov s) (k : ∀ a, s.isC = true → ov = some (some (.ref a)) → ∀ p, Foot H s a p → HK'.h p = none) (hm : HK'.me = HK.me) : SlotOk w K ra HK' F H ov s := by
  cases s with
  | no => trivial
  | pin =>
    show ov = some (some HK'.me)
    rw [hm]
    exact h
  | val d => exact h
  | own o =>
    obtain ⟨a, e1, r, fa, ka, na⟩ := h
    exact ⟨a, e1, r, fa, k a rfl e1 a (.inl rfl), na⟩
  | box l =>
    obtain ⟨a, e1, es, at_, rb, nd, f⟩ := h
    refine ⟨a, e1, es, at_, rb, nd, fun p hp => ?_⟩
    obtain ⟨f1, f2, f3, f4⟩ := f p hp
    exact ⟨f1, k a rfl e1 p (hp.imp id fun z => ⟨rfl, z⟩), f3, f4⟩
end
section
variable {X : Cx} {W : WX} {kx tg iter : Expr} {scope : Scope} {pos lpos : Pos} {mi : M (List D)} {g : D → M Unit} {mk : M D} {is : List Nat}
end
end Mi

set_option Elab.async false
set_option linter.all false
set_option maxRecDepth 100000
set_option maxHeartbeats 4000000
/-! Mirrors, part M7: min(xs) of words; d == {} and d != {}. -/
namespace Mi
open PySem PySem.Spec PyProof.Rows L2
open PySem.W (dataLt minD alike alikeAll min_list_data reads_keeps keyToks)
open PySem.SeqAt (readOf_eq)
/-! ### a dict against an empty one -/
section
variable {prog : Program} {w : World} {A : Around} {E : Value → Shared → Prop} {s : Shared}
theorem same_none {nm : String} {a b : Addr} {oa ob : Obj} {es es' : Array DictEntry} {ep ep' : Nat} {Q : Bool → Shared → Prop} (ha : (a == sysModules) = false) (hb : (b == sysModules) = false)
    (hoa : s.heap.get? a = some oa) (hda : oa.data = .dict es ep) (hob : s.heap.get? b = some ob) (hdb : ob.data = .dict es' ep') (hz : es'.size = 0) (h : Q (decide (es.size = 0)) s) :
    wpAny (model prog w) A (Builtin.Dict.samePairs nm a b) Q E s := by
  unfold Builtin.Dict.samePairs Builtin.Dict.showsAll
  rw [if_neg (show ¬ (a == sysModules) = true by rw [ha]; exact Bool.false_ne_true), if_neg (show ¬ (b == sysModules) = true by rw [hb]; exact Bool.false_ne_true)]
  refine wpAny_bind (wpAny_pure (wpAny_bind (wpAny_pure ?_)))
  refine wpAny_bind (wpAny_dictEntries hoa hda ?_)
  dsimp only
  refine wpAny_bind (wpAny_dictEntries hob hdb ?_)
  by_cases hsz : es.size = 0
  case neg =>
    rw [if_pos (by rw [hz]; simpa using hsz)]
    rw [decide_eq_false hsz] at h
    exact wpAny_bind (wpAny_rule (wpAny_pure h))
  case pos =>
    rw [decide_eq_true hsz] at h
    rw [if_neg (by rw [hz, hsz]; simp)]
    refine wpAny_bind (wpAny_dictEpoch hoa hda ?_)
    refine wpAny_bind ?_
    rw [Std.Legacy.Range.forIn_eq_forIn_range']
    simp only [Std.Legacy.Range.size, Nat.sub_zero, Nat.add_sub_cancel, Nat.div_one, hsz]
    refine wpAny_pure ?_
    exact wpAny_pure h
theorem empty_ne {a b : Addr} {oa ob : Obj} {es es' : Array DictEntry} {ep ep' : Nat} {Q : Value → Shared → Prop} (ha : (a == sysModules) = false) (hb : (b == sysModules) = false)
    (hoa : s.heap.get? a = some oa) (hca : oa.cls = .type "dict") (hda : oa.data = .dict es ep) (hob : s.heap.get? b = some ob) (hcb : ob.cls = .type "dict") (hdb : ob.data = .dict es' ep') (hz : es'.size = 0) (hu : A.units < cLine) (h : Q (.bool (!decide (es.size = 0))) s) :
    wpAny (model prog w) A (compareOp .NotEq (.ref a) (.ref b)) Q E s := by
  have ta : s.TypeIs (.ref a) "dict" := ⟨oa, hoa, hca⟩
  have tb : s.TypeIs (.ref b) "dict" := ⟨ob, hob, hcb⟩
  refine wpAny_richCompare_same_room (op := .NotEq) ta tb PySem.F.slot_dict_ne (wpAny_call_entry PySem.F.slot_dict_ne ta PySem.F.entry_dict_ne ?_ (PySem.F.args_dict_ne_2 _ _)) hu
  show wpAny _ _ (Builtin.Dict.dictSlotArgs "__ne__" ⟨[.ref a, .ref b], []⟩ >>= _) _ _ s
  refine wpAny_bind ?_
  unfold Builtin.Dict.dictSlotArgs
  refine wpAny_bind (wpAny_notOrdered_dict ta ?_)
  show wpAny _ _ (pure (Value.ref a, Value.ref b)) _ _ s
  refine wpAny_pure ?_
  refine wpAny_bind (wpAny_isInstance (T := "dict") tb PySem.F.sub_dict_dict ?_)
  simp only [Bool.not_true, Bool.false_eq_true, if_false]
  refine wpAny_bind (wpAny_pure (wpAny_bind (wpAny_pure ?_)))
  refine wpAny_bind (same_none ha hb hoa hda hob hdb hz ?_)
  refine wpAny_pure ⟨_, rfl, ?_, ?_⟩
  · exact fun x => nomatch x
  · simpa using h
end
def noneF (neg : Bool) (d e : D) : Option D := match d, e with
  | .dct l, .dct [] => some (.bl (if neg then !l.isEmpty else l.isEmpty))
  | _, _ => none
def rNoneN (w : World) (K : PySem.W.Frag) (neg : Bool) : R2 := fun x y H Q => ∃ ra F a b es kvs es', DAt w K ra F H x a es kvs ∧ DAt w K ra F H y b es' [] ∧ Q (.bl (if neg then !kvs.isEmpty else kvs.isEmpty)) H
section
variable {X : Cx} {W : WX} {a b : Expr} {ma mb : M Ref} {pos : Pos}
theorem none_read {pins : List (Addr × Obj)} {σ : St} {H : Hp} {s : Shared} (I : Inv X pins σ H s) {ra : Addr} {F : Hp} {x : V} {a : Addr} {es : List (NestedKey × V × V)} {kvs : List (D × D)} (d : DAt X.w X.K ra F H x a es kvs) :
    (a == sysModules) = false ∧ ∃ o des ep, s.heap.get? a = some o ∧ o.cls = .type "dict" ∧ o.data = .dict des ep ∧ decide (des.size = 0) = kvs.isEmpty := by
  obtain ⟨p1, p2, p3, p4, o, des, ep, ho, hc, hd, pr, _⟩ := inv_dictP I d.at_
  refine ⟨p1, o, des, ep, ho, hc.1, hd, ?_⟩
  have h1 : es.length = des.toList.length := Paired.length pr
  have h2 := d.rep.length
  have h3 : des.toList.length = des.size := Array.length_toList
  cases kvs with
  | nil =>
    simp at h2
    simp [show des.size = 0 by rw [← h3, ← h1, h2]; rfl]
  | cons p kvs =>
    simp at h2
    have : ¬ des.size = 0 := by omega
    simp [this]
theorem op_noneNe (hu : X.A.units + 64 < cLine) : OpR X (compareOp .NotEq) (rNoneN X.w X.K true) := by
  intro pins s σ H x y v u Q I rx ry h
  obtain ⟨ra, F, a, b, es, kvs, es', dx, dy, q⟩ := h
  obtain ⟨p1, o, des, ep, ho, hc, hd, hs⟩ := none_read I dx
  obtain ⟨q1, o', des', ep', ho', hc', hd', hs'⟩ := none_read I dy
  obtain ⟨rfl, _, _, _⟩ := dx
  obtain ⟨rfl, _, _, _⟩ := dy
  cases rx
  cases ry
  refine empty_ne p1 q1 ho hc hd ho' hc' hd' (by simpa using hs') (by omega) ⟨.bl _, H, I.tok _, rfl, ?_⟩
  rw [hs]
  exact q
theorem ops_none (neg : Bool) : OpS X.w X.K (rNoneN X.w X.K neg) (noneF neg) := by
  intro ra HK F e σ H x y d c z Q R hx hy hz q
  cases d with
  | dct l =>
    cases c with
    | dct m =>
      cases m with
      | nil =>
        cases hz
        obtain ⟨a, es, da⟩ := hx.dat R.fh
        obtain ⟨b, es', db⟩ := hy.dat R.fh
        exact ⟨ra, F, a, b, es, l, es', da, db, q _ F H (Same.refl F) R (.bl _)⟩
      | cons p m => cases hz
    | _ => cases hz
  | _ => cases hz
theorem pmt_noneNe (hu : X.A.units + 64 < cLine) (ha : PMR X W a ma) (hb : PMR X W b mb) (hm : behindInMarks .NotEq b = false := by rfl) : PMT X W (.Compare a [.NotEq] [b] pos) (testM (op2M ma mb (noneF true))) := pmt_cmp (op_noneNe hu) (ops_none true) ha hb hm
end
/-! ### min(xs) of words -/
section
variable {X : Cx} {W : WX} {a b : Expr} {ma mb : M Ref} {pos : Pos}
end
end Mi

set_option Elab.async false
set_option linter.all false
set_option maxRecDepth 100000
set_option maxHeartbeats 4000000
/-! Mirrors, part M8: list(d). -/
namespace Mi
open PySem PySem.Spec PyProof.Rows L2
def listDO (d : D) : Option OD := match d with
  | .lst l => some (.lst l)
  | .tup l => some (.lst l)
  | .dct l => some (.lst (l.map (·.1)))
  | _ => none
def rListN (w : World) (K : PySem.W.Frag) : List V → Hp → VK → Prop := fun xs H Q => ∃ ra F a es kvs y, xs = [y] ∧ DAt w K ra F H y a es kvs ∧ ∀ p, H p = none → Q (.ref p) (upd H p (.lst (es.map fun e => e.2.1)))
section
variable {X : Cx} {W : WX} {a : Expr} {ma : M Ref} {pos : Pos}
theorem call_listN (hc : X.calm = true) : CallR X (.type "list") (rListN X.w X.K) := by
  intro pins s σ H xs us Q I r h
  obtain ⟨ra, F, a, es, kvs, y, rfl, ⟨rfl, fh, ha, re⟩, q⟩ := h
  obtain ⟨u, rfl, rx⟩ := vals1 r
  cases rx
  obtain ⟨p1, p2, _, _, o, des, ep, ho, hx, hd, pr, _⟩ := inv_dictP I ha
  have hl : es.length = des.size := by
    rw [Paired.length pr]
    exact Array.length_toList
  refine PySem.W.kdl_call (kdl_raw p1 hx hd) (I.ok.hd hc) ho (by omega) fun h' tk acc' c' kp e it => ?_
  have hz : (es.map fun e => e.2.1).length ≤ sizeLine := by rw [List.length_map]; exact p2
  refine ⟨.ref s.heap.objs.size, upd H s.heap.objs.size (.lst (es.map fun e => e.2.1)), I.laid (t' := tk) (o := .lst (es.map fun e => e.2.1)) kp (Nat.le_refl _) ⟨hz, acc'.toList, c', ?_, by rw [Array.toArray_toList]; exact e⟩, rfl, q _ (I.hok.fresh (Nat.le_refl _))⟩
  have el : acc'.toList.length = acc'.size := by simp
  refine vals_of_at (by rw [List.length_map, el, it.1, hl]) fun j x v h1 h2 => ?_
  obtain ⟨en, h3, h4⟩ := it.2 j v (by rw [← Array.getElem?_toList]; exact h2)
  obtain ⟨e, h5, h6⟩ := paired_get pr (i := j) (y := en) (by rw [Array.getElem?_toList]; exact h3)
  rw [List.getElem?_map, h5] at h1
  cases h1
  rw [h4]
  exact h6.2.1
theorem RepE.keysA {w : World} {K : PySem.W.Frag} {ra : Addr} {F : Hp} : ∀ {es : List (NestedKey × V × V)} {kvs : List (D × D)}, RepE w K ra F es kvs → RepA w K ra F (es.map fun e => e.2.1) (kvs.map (·.1))
  | _, _, .nil => .nil
  | _, _, .cons _ h1 _ r => .cons h1 (RepE.keysA r)
theorem pmo_listOfD {p : Pos} (hm : X.mg "list" = none) (hv : bootBuiltins "list" = some (.type "list")) (ha : PMR X W a ma) (hc : X.calm = true := by rfl) (hg : Gl X "list" := by rfl) (hse : starEach [a] X.env = (false, eval a X.env) :: starEach [] X.env := by rfl) : PMO X W (.Call (.Name "list" p) [a] [] pos) (op1O ma listDO) := by
  refine PE.weaken (pe_callTy (CallR.or' call_list_of (call_listN hc)) hg hm hv (pa_cons ha pa_nil hse) (by decide) (by decide) hse rfl) ?_
  rintro σ H Q ⟨ra, HK, F, e, R, hw⟩
  unfold op1O at hw
  refine stepG R hw fun F1 e1 x v H1 s1 R1 r1 q1 => ?_
  obtain ⟨d, hd, q2, _⟩ := R1.deref r1 q1
  cases d with
  | lst l =>
    obtain ⟨b, vs, rfl, h1, h2⟩ := hd.lst R1.fh
    refine .inl ⟨b, vs, rfl, .inl (.of h1), fun p hp => ?_⟩
    obtain ⟨f1, f2, f3, f4⟩ := fresh_own R1 hp (o := .lst l) (.inr trivial)
    exact q2 _ _ _ (Same.refl F1) (R1.grow hp _) ⟨p, rfl, ⟨vs, upd_same, h2⟩, f1, f2, f3, f4⟩
  | tup l =>
    obtain ⟨b, vs, rfl, h1, h2⟩ := hd.tup R1.fh
    refine .inl ⟨b, vs, rfl, .inr h1, fun p hp => ?_⟩
    obtain ⟨f1, f2, f3, f4⟩ := fresh_own R1 hp (o := .lst l) (.inr trivial)
    exact q2 _ _ _ (Same.refl F1) (R1.grow hp _) ⟨p, rfl, ⟨vs, upd_same, h2⟩, f1, f2, f3, f4⟩
  | dct l =>
    obtain ⟨b, es, da⟩ := hd.dat R1.fh
    refine .inr ⟨ra, F1, b, es, l, _, rfl, da, fun p hp => ?_⟩
    obtain ⟨f1, f2, f3, f4⟩ := fresh_own R1 hp (o := .lst (l.map (·.1))) (.inr trivial)
    exact q2 _ _ _ (Same.refl F1) (R1.grow hp _) ⟨p, rfl, ⟨_, upd_same, RepE.keysA da.rep⟩, f1, f2, f3, f4⟩
  | _ => exact q2.elim
end
end Mi

set_option Elab.async false
set_option linter.all false
set_option maxRecDepth 100000
set_option maxHeartbeats 4000000
/-! Mirrors, part M9: t[::-1] of a tuple. -/
namespace HT
open PySem PySem.Spec PyProof.Rows
section
variable {prog : Program} {w : World} {A : Around} {E : Value → Shared → Prop} {s : Shared}
end
end HT
namespace Mi
open PySem PySem.Spec PyProof.Rows L2
section
variable {X : Cx} {W : WX} {e stp : Expr} {te : TE} {ts : L2.TO} {pos p2 : Pos} {ma : M Ref} {ms : M (Option Int)}
theorem RepA.snoc {w : World} {K : PySem.W.Frag} {ra : Addr} {F : Hp} : ∀ {vs : List V} {ds : List D} {v : V} {d : D}, RepA w K ra F vs ds → Rep w K ra F v d → RepA w K ra F (vs ++ [v]) (ds ++ [d])
  | _, _, _, _, .nil, h => .cons h .nil
  | _, _, _, _, .cons h1 r, h => .cons h1 (RepA.snoc r h)
/-! a op b op' c, as a test -/
end
end Mi

set_option Elab.async false
set_option linter.all false
set_option maxRecDepth 100000
set_option maxHeartbeats 4000000
/-! Mirrors, part M10: list(d.values()). -/
namespace Mi
open PySem PySem.Spec PyProof.Rows L2
section
variable {X : Cx} {W : WX} {a l : Expr} {te : TE} {ma : M Ref} {m : M D} {pos apos cpos : Pos}
end
end Mi

set_option Elab.async false
set_option linter.all false
set_option maxRecDepth 100000
set_option maxHeartbeats 4000000
/-! Mirrors, part M11: tuple(range(a, b)). -/
namespace Mi
open PySem PySem.Spec PyProof.Rows L2
def tupRgM (ma mb : M D) : M D := bindM ma fun x => bindM mb fun y => liftO ((rg2 x y).map D.tup)
section
variable {X : Cx} {W : WX} {a b : Expr} {pos : Pos}
end
@[simp ↓] theorem tupRgM_app (m n : M D) (e : Env) : tupRgM m n e = (m e).bind fun x => bindM n fun y => liftO ((rg2 x y).map D.tup) := rfl
end Mi

set_option Elab.async false
set_option linter.all false
set_option maxRecDepth 100000
set_option maxHeartbeats 4000000
/-! Mirrors, part M12: sorted(xs) of any alike data, sorted(d). -/
namespace Mi
open PySem PySem.Spec PyProof.Rows L2
open PySem.W (EachIs alike)
def dAlike (l : List D) : Bool := l.all fun a => l.all fun b => alike a.pd b.pd
def D.isCons : D → Bool
  | .tup (_ :: _) => true
  | _ => false
def D.isOther : D → Bool
  | .bl _ => true
  | .int _ => true
  | .str _ => true
  | .lst _ => true
  | _ => false
def sortK (l : List D) : Bool := D.plains 20 l && (dAlike l && ((l.all D.isCons || l.all D.isOther) && decide (l.length ≤ 1000000)))
/-- the order of alike data -/
noncomputable def dLe (a b : D) : Bool := PySem.W.dataLe false D.pd a b
noncomputable def sortL (l : List D) : Option OD := if sortK l = true then some (.lst (l.mergeSort dLe)) else none
noncomputable def sortNF (d : D) : Option OD := match d with
  | .lst l => sortL l
  | .dct kvs => sortL (kvs.map (·.1))
  | _ => none
/-- a list's (or tuple's) items read as data: the new list holds them by their order -/
def rSortD (K : PySem.W.Frag) : List V → Hp → VK → Prop := fun xs H Q => ∃ (a : Addr) (vs : List V) (ds : List D), xs = [.ref a] ∧ SqL K H a vs ∧ vs.length = ds.length ∧ DpAll K H vs (D.pds ds) ∧ sortK ds = true ∧
  ∀ p, H p = none → Q (.ref p) (upd H p (.lst (((vs.zip ds).mergeSort (fun x y => dLe x.2 y.2)).map (·.1))))
def rSortN (w : World) (K : PySem.W.Frag) : List V → Hp → VK → Prop := fun xs H Q => ∃ ra F a es kvs y, xs = [y] ∧ DAt w K ra F H y a es kvs ∧ sortK (kvs.map (·.1)) = true ∧
  ∀ p, H p = none → Q (.ref p) (upd H p (.lst (((es.map fun e => e.2.1).zip (kvs.map (·.1))).mergeSort (fun x y => dLe x.2 y.2) |>.map (·.1))))
theorem pds_map : ∀ l : List D, D.pds l = l.map D.pd
  | [] => rfl
  | d :: l => by
    rw [D.pds, pds_map l]
    rfl
theorem alike_of {l : List D} (h : dAlike l = true) : PySem.W.AllAlike (l.map D.pd) := by
  intro d hd d' hd'
  obtain ⟨a, ha, rfl⟩ := List.mem_map.mp hd
  obtain ⟨b, hb, rfl⟩ := List.mem_map.mp hd'
  exact List.all_eq_true.mp (List.all_eq_true.mp h a ha) b hb
theorem sortable_of {l : List D} (h : (l.all D.isCons || l.all D.isOther) = true) : PySem.W.Sortable (l.map D.pd) := by
  rw [Bool.or_eq_true] at h
  rcases h with h | h
  · refine .inl fun d hd => ?_
    obtain ⟨a, ha, rfl⟩ := List.mem_map.mp hd
    have := List.all_eq_true.mp h a ha
    cases a with
    | tup l =>
      cases l with
      | nil => cases this
      | cons x r => exact ⟨x.pd, D.pds r, by simp [D.pd, D.pds]⟩
    | _ => cases this
  · refine .inr fun d hd => ?_
    obtain ⟨a, ha, rfl⟩ := List.mem_map.mp hd
    have := List.all_eq_true.mp h a ha
    cases a <;> first | (cases this; done) | exact ⟨fun z => by simp [D.pd] at z, fun xs z => by simp [D.pd] at z⟩
theorem sortK_of {l : List D} (h : sortK l = true) : D.plains 20 l = true ∧ dAlike l = true ∧ (l.all D.isCons || l.all D.isOther) = true ∧ l.length ≤ 1000000 := by
  unfold sortK at h
  simp only [Bool.and_eq_true, decide_eq_true_eq] at h
  exact ⟨h.1, h.2.1, h.2.2.1, h.2.2.2⟩
theorem depth_le {l : List D} (h : D.plains 20 l = true) : ∀ d ∈ l, d.pd.depth ≤ 20 := by
  induction l with
  | nil => intro d hd; cases hd
  | cons x l ih =>
    simp only [D.plains, Bool.and_eq_true] at h
    intro d hd
    rcases List.mem_cons.mp hd with rfl | hd
    · exact (plain_lay _ _ h.1).2
    · exact ih h.2 d hd
/-- values with the names' and the data's words at once -/
theorem each_vals : ∀ {ys : List V} {its : List Value} {ds : List D}, Vals ys its → ys.length = ds.length → EachIs (fun (v : Value) (b : V × D) => RelV b.1 v) its (ys.zip ds)
  | _, _, [], .nil, _ => .nil
  | _, _, d :: ds, .cons r t, h => .cons r (each_vals t (by simpa using h))
  | _, _, [], .cons _ _, h => by simp at h
  | _, _, _ :: _, .nil, h => by simp at h
theorem vals_each : ∀ {out : List Value} {bs : List (V × D)}, EachIs (fun (v : Value) (b : V × D) => RelV b.1 v) out bs → Vals (bs.map (·.1)) out
  | _, _, .nil => .nil
  | _, _, .cons r t => .cons r (vals_each t)
theorem zip_pd : ∀ {ys : List V} {ds : List D}, ys.length = ds.length → (ys.zip ds).map (fun b => b.2.pd) = D.pds ds
  | [], [], _ => rfl
  | y :: ys, d :: ds, h => by
    have := zip_pd (ys := ys) (ds := ds) (by simpa using h)
    rw [List.zip_cons_cons, List.map_cons, this]
    rfl
  | [], _ :: _, h => by simp at h
  | _ :: _, [], h => by simp at h
mutual
/-- what is read lies in the heap -/
theorem reads_lt {h : Heap} : ∀ (v : Value) (d : PyData) (as : List Addr), Reads h v d as → ∀ b ∈ as, b < h.objs.size
  | _, _, _, .none, b, m => nomatch m
  | _, _, _, .bool _, b, m => nomatch m
  | _, _, _, .int _ _, b, m => nomatch m
  | _, _, _, .str _ _, b, m => nomatch m
  | _, _, _, .list h1 _ _ h4, b, m => by
    rcases List.mem_cons.mp m with rfl | m
    · exact Heap.lt_size h1
    · exact reads_ltA _ _ _ h4 b m
  | _, _, _, .tuple _ _ _ h4, b, m => reads_ltA _ _ _ h4 b m
  | _, _, _, .dict h1 _ _ h4 h5, b, m => by
    rcases List.mem_append.mp m with m | m
    · rcases List.mem_cons.mp m with rfl | m
      · exact Heap.lt_size h1
      · exact reads_ltA _ _ _ h4 b m
    · exact reads_ltA _ _ _ h5 b m
theorem reads_ltA {h : Heap} : ∀ (vs : List Value) (ds : List PyData) (as : List Addr), ReadsAll h vs ds as → ∀ b ∈ as, b < h.objs.size
  | _, _, _, .nil, b, m => nomatch m
  | _, _, _, .cons h1 h2, b, m => by
    rcases List.mem_append.mp m with m | m
    · exact reads_lt _ _ _ h1 b m
    · exact reads_ltA _ _ _ h2 b m
end
theorem RepA.zipped {w : World} {K : PySem.W.Frag} {ra : Addr} {F : Hp} : ∀ {vs : List V} {ds : List D}, RepA w K ra F vs ds → ∀ p ∈ vs.zip ds, Rep w K ra F p.1 p.2
  | _, _, .nil, p, h => by simp at h
  | _, _, .cons a r, p, h => by
    rw [List.zip_cons_cons] at h
    rcases List.mem_cons.mp h with rfl | h
    · exact a
    · exact r.zipped p h
theorem RepA.ofZip {w : World} {K : PySem.W.Frag} {ra : Addr} {F : Hp} : ∀ (l : List (V × D)), (∀ p ∈ l, Rep w K ra F p.1 p.2) → RepA w K ra F (l.map (·.1)) (l.map (·.2))
  | [], _ => .nil
  | p :: l, h => .cons (h p List.mem_cons_self) (RepA.ofZip l fun q hq => h q (List.mem_cons_of_mem _ hq))
theorem RepA.sorted {w : World} {K : PySem.W.Frag} {ra : Addr} {F : Hp} {vs : List V} {ds : List D} (h : RepA w K ra F vs ds) : RepA w K ra F (((vs.zip ds).mergeSort (fun x y => dLe x.2 y.2)).map (·.1)) (ds.mergeSort dLe) := by
  have e : ((vs.zip ds).mergeSort (fun x y => dLe x.2 y.2)).map (·.2) = ds.mergeSort dLe := by
    rw [List.map_mergeSort (r := fun x y : V × D => dLe x.2 y.2) (s := dLe) (f := fun x : V × D => x.2) (fun _ _ _ _ => rfl)]
    congr 1
    exact List.map_snd_zip (by rw [RepA.length h]; exact Nat.le_refl _)
  rw [← e]
  exact RepA.ofZip _ fun p hp => h.zipped p ((List.mergeSort_perm _ _).mem_iff.mp hp)
section
variable {X : Cx} {W : WX} {a : Expr} {ma : M Ref} {pos : Pos}
theorem cr_sortD (hu : X.A.units + 64 < cLine) : CallR X (.builtin "sorted") (rSortD X.K) := by
  intro pins s σ H vs us Q I r h
  obtain ⟨a, ys, ds, rfl, hs, hlen, hd, hk, q⟩ := h
  obtain ⟨its, rv, hl, hz⟩ := I.list hs
  rw [Vals.ref1 r]
  obtain ⟨as, hr⟩ := Dp.readsAll I _ _ its hd rv
  obtain ⟨k1, k2, k3, k4⟩ := sortK_of hk
  rw [← zip_pd hlen] at hr
  have ez : (ys.zip ds).map (fun b => b.2.pd) = ds.map D.pd := by rw [zip_pd hlen, pds_map]
  refine PySem.W.sorted_data (vs := its) (bs := ys.zip ds) (enc := fun b => b.2.pd) (R := fun v b => RelV b.1 v) hl.isList (each_vals rv hlen) (PySem.W.readsAll_each _ hr) (by rw [ez]; exact alike_of k2) (by rw [ez]; exact sortable_of k3) (by
    rw [List.length_zip, sizeLine_eq]; omega) (fun b hb => ?_) fun out hol he => ?_
  · have := depth_le k1 b.2 (List.of_mem_zip hb).2
    omega
  · obtain ⟨ep, he'⟩ := PyProof.Rows.sortedAll_at s.heap its out.toArray
    have hv := vals_each he
    have hlen2 : (((ys.zip ds).mergeSort (PySem.W.dataLe false fun b => b.2.pd)).map (·.1)).length ≤ sizeLine := by
      rw [List.length_map, List.length_mergeSort, List.length_zip, sizeLine_eq]
      omega
    refine ⟨.ref _, upd H (s.heap.objs.size + 1) (.lst (((ys.zip ds).mergeSort (PySem.W.dataLe false fun b => b.2.pd)).map (·.1))), I.laid (t' := s.toks) (fun _ _ => PyProof.Rows.sortedAll_old) (Nat.le_succ _) ⟨hlen2, out, ep, hv, he'⟩, rfl, ?_⟩
    exact q _ (I.hok.fresh (Nat.le_succ _))
theorem call_sortN (hu : X.A.units + 64 < cLine) (hc : X.calm = true) : CallR X (.builtin "sorted") (rSortN X.w X.K) := by
  intro pins s σ H xs us Q I r h
  obtain ⟨ra, F, a, es, kvs, y, rfl, ⟨rfl, fh, ha, re⟩, hk, q⟩ := h
  obtain ⟨u, rfl, rx⟩ := vals1 r
  cases rx
  obtain ⟨p1, p2, _, _, o, des, ep, ho, hx, hd, pr, _⟩ := inv_dictP I ha
  have hl : es.length = des.size := by
    rw [Paired.length pr]
    exact Array.length_toList
  obtain ⟨k1, k2, k3, k4⟩ := sortK_of hk
  have hkl : es.length = kvs.length := RepE.length re
  refine Calls.call_function_entry PyProof.Rows.kind_sorted PyProof.Rows.plain_sorted PyProof.Rows.entry_sorted (PyProof.Rows.args_sorted1 _) ?_
  unfold Builtin.«sorted»
  refine wpAny_bind (m := checkCount "sorted" 1 1 _) (wpAny_pure ?_)
  refine wpAny_bind (PySem.W.kdu_collect (A := X.A.in1) (kdl_raw p1 hx hd) (I.ok.hd hc) ho (by omega) fun h' tk acc hkp it => ?_)
  have hal : acc.toList.length = es.length := by rw [Array.length_toList, it.1, hl]
  have I1 : Inv X pins σ H { s with heap := h', toks := tk } := I.kept hkp
  have hvals : Vals (es.map fun e => e.2.1) acc.toList := vals_of_at (by rw [List.length_map, hal]) fun j x v h1 h2 => by
    obtain ⟨en, h3, h4⟩ := it.2 j v (by rw [← Array.getElem?_toList]; exact h2)
    obtain ⟨e, h5, h6⟩ := paired_get pr (i := j) (y := en) (by rw [Array.getElem?_toList]; exact h3)
    rw [List.getElem?_map, h5] at h1
    cases h1
    rw [h4]
    exact h6.2.1
  have hrA := RepE.keysA re
  have hlz : (es.map fun e => e.2.1).length = (kvs.map (·.1)).length := by rw [List.length_map, List.length_map, hkl]
  have hdp := hrA.dp fh 20 k1
  obtain ⟨as, hr⟩ := Dp.readsAll I1 _ _ acc.toList hdp hvals
  rw [← zip_pd hlz] at hr
  have ez : ((es.map fun e => e.2.1).zip (kvs.map (·.1))).map (fun b => b.2.pd) = (kvs.map (·.1)).map D.pd := by rw [zip_pd hlz, pds_map]
  generalize hys : (es.map fun e => e.2.1) = ys at *
  generalize hds : kvs.map (·.1) = ds at *
  have hyl : ys.length = es.length := by rw [← hys, List.length_map]
  refine wpAny_bind (wpAny_newList ?_ (by rw [hal]; exact p2))
  have hoL : (h'.push (seqObj "list" acc.toList.toArray 0)).get? h'.objs.size = some (seqObj "list" acc.toList.toArray 0) := Heap.get?_push_size _ rfl
  show wpAny _ _ _ _ _ { s with heap := h'.push (seqObj "list" acc.toList.toArray 0), toks := tk }
  refine wpAny_bind (wpAny_holding (PySem.W.list_sort_data (s := { s with heap := h'.push (seqObj "list" acc.toList.toArray 0), toks := tk }) (vs := acc.toList) (bs := ys.zip ds) (enc := fun b => b.2.pd) (R := fun v b => RelV b.1 v) hoL (each_vals hvals hlz) ?_ (by rw [ez]; exact alike_of k2) (by rw [ez]; exact sortable_of k3) (by
    rw [List.length_zip, sizeLine_eq]; omega) (fun b hb => ?_) fun out hol he => ?_))
  · have e0 := PySem.W.readsAll_each (fun b : V × D => b.2.pd) hr
    have hpre : ∀ b o, h'.get? b = some o → (h'.push (seqObj "list" acc.toList.toArray 0)).get? b = some o := fun b o e => Heap.get?_push_of_some _ e
    exact e0.mono fun v b ⟨as, ra⟩ => ⟨as, PyProof.Rows.Reads.keeps hpre ra, fun m => Nat.lt_irrefl _ (reads_lt _ _ _ ra _ m)⟩
  · have := depth_le k1 b.2 (List.of_mem_zip hb).2
    have e : X.A.in1.units = X.A.units + 1 := rfl
    omega
  · obtain ⟨e', he'⟩ := PyProof.Rows.sortedHeap_at (vs := acc.toList) (out := out.toArray) hoL
    have hv := vals_each he
    have hlen2 : (((ys.zip ds).mergeSort (PySem.W.dataLe false fun b => b.2.pd)).map (·.1)).length ≤ sizeLine := by
      rw [List.length_map, List.length_mergeSort, List.length_zip, sizeLine_eq]
      omega
    refine wpAny_pure ⟨_, rfl, .ref h'.objs.size, upd H h'.objs.size (.lst (((ys.zip ds).mergeSort (PySem.W.dataLe false fun b => b.2.pd)).map (·.1))), I1.laid (t' := tk) (fun b u e => ?_) (Nat.le_refl _) ⟨hlen2, out, e', hv, he'⟩, rfl, ?_⟩
    · have hb : b < h'.objs.size := Heap.lt_size e
      rw [PyProof.Rows.sortedHeap_old (Nat.ne_of_lt hb) (by rw [size_push']; exact Nat.lt_succ_of_lt hb)]
      exact Heap.get?_push_of_some _ e
    · exact q _ (I1.hok.fresh (Nat.le_refl _))
theorem pmo_sortN {p : Pos} (hu : X.A.units + 64 < cLine) (hm : X.mg "sorted" = none) (ha : PMR X W a ma) (hc : X.calm = true := by rfl) (hg : Gl X "sorted" := by rfl) (hse : starEach [a] X.env = (false, eval a X.env) :: starEach [] X.env := by rfl) : PMO X W (.Call (.Name "sorted" p) [a] [] pos) (op1O ma sortNF) := by
  refine PE.weaken (pe_callB (CallR.or' (cr_sortD hu) (call_sortN hu hc)) hg hm PyProof.Rows.boot_sorted (pa_cons ha pa_nil hse) (by decide) (by decide) hse rfl) ?_
  rintro σ H Q ⟨ra, HK, F, e, R, hw⟩
  unfold op1O at hw
  refine stepG R hw fun F1 e1 x v H1 s1 R1 r1 q1 => ?_
  obtain ⟨d, hd, q2, _⟩ := R1.deref r1 q1
  cases d with
  | lst l =>
    obtain ⟨b, vs, rfl, h1, h2⟩ := hd.lst R1.fh
    unfold liftO sortNF sortL at q2
    by_cases c : sortK l = true
    · simp only [if_pos c] at q2
      refine .inl ⟨b, vs, l, rfl, .of h1, RepA.length h2, h2.dp R1.fh 20 (sortK_of c).1, c, fun p hp => ?_⟩
      obtain ⟨f1, f2, f3, f4⟩ := fresh_own R1 hp (o := .lst (l.mergeSort dLe)) (.inr trivial)
      exact q2 _ _ _ (Same.refl F1) (R1.grow hp _) ⟨p, rfl, ⟨_, upd_same, h2.sorted⟩, f1, f2, f3, f4⟩
    · simp only [if_neg c] at q2
      exact q2.elim
  | dct l =>
    obtain ⟨b, es, da⟩ := hd.dat R1.fh
    unfold liftO sortNF sortL at q2
    by_cases c : sortK (l.map (·.1)) = true
    · simp only [if_pos c] at q2
      refine .inr ⟨ra, F1, b, es, l, _, rfl, da, c, fun p hp => ?_⟩
      obtain ⟨f1, f2, f3, f4⟩ := fresh_own R1 hp (o := .lst ((l.map (·.1)).mergeSort dLe)) (.inr trivial)
      exact q2 _ _ _ (Same.refl F1) (R1.grow hp _) ⟨p, rfl, ⟨_, upd_same, (RepE.keysA da.rep).sorted⟩, f1, f2, f3, f4⟩
    · simp only [if_neg c] at q2
      exact q2.elim
  | _ => exact q2.elim
end
end Mi

set_option Elab.async false
set_option linter.all false
set_option maxRecDepth 100000
set_option maxHeartbeats 4000000
/-! Mirrors, part M13: properties. -/
namespace Mi
open PySem PySem.Spec PyProof.Rows L2
/-! ### the snapshot: a property's getter -/
def prA (K : PySem.W.Frag) (p : Str × Str) : Addr := He.ma K (He.ga K p.1) p.2
def gtA (K : PySem.W.Frag) (p : Str × Str) : Addr := match PySem.W.recIn K (prA K p) "property" with
  | some (.ref g :: _) => g
  | _ => 0
def gtW (K : PySem.W.Frag) (p : Str × Str) : He.FnW := match K.lookup (gtA K p) with
  | some ⟨_, _, .func fd, _⟩ => some (fd.name, fd.qualname, fd.params, fd.body, fd.scope, fd.globals, fd.closure, fd.builtins)
  | _ => none
structure GtD where
  at_ : Str × Str
  name : Str
  qual : Str
  params : Arguments
  body : List Stmt
  scope : Scope
def GtD.val (d : GtD) : He.FnW := some (d.name, d.qual, d.params, .stmts d.body, d.scope, mainGlobals, [], builtinsNs)
def propB (K : PySem.W.Frag) (p : Str × Str) : Bool := decide (PySem.W.findIn K (.ref (He.ga K p.1)) p.2 = some (some (.ref (prA K p)))) && (decide (PySem.W.specialIn K (.ref (prA K p)) "__get__" = some (some (.builtin "property.__get__"))) &&
  (decide (PySem.W.takesIn K (.ref (prA K p)) = some true) && (match PySem.W.recIn K (prA K p) "property" with
    | some (.ref _ :: _) => true
    | _ => false)))
theorem propB_ok {K : PySem.W.Frag} {p : Str × Str} (h : propB K p = true) : PropOf K (He.ga K p.1) p.2 (prA K p) (gtA K p) := by
  unfold propB at h
  simp only [Bool.and_eq_true, decide_eq_true_eq] at h
  obtain ⟨h1, h2, h3, h4⟩ := h
  refine ⟨h1, h2, h3, ?_⟩
  unfold gtA
  split at h4
  · rename_i g r e
    exact ⟨r, by rw [e]⟩
  · cases h4
def GtD.ok (K : PySem.W.Frag) (d : GtD) : Bool := propB K d.at_ && (PySem.W.keepIn K (.ref (gtA K d.at_)) && (match K.lookup (gtA K d.at_) with
  | some ⟨_, _, .func fd, _⟩ => PySem.W.codeIn K fd.code d.qual && (He.dflB K fd.defaults [] && He.kwdB K fd.kwdefaults [])
  | _ => false))
theorem GtD.funD {K : PySem.W.Frag} {d : GtD} (e : gtW K d.at_ = d.val) (c : d.ok K = true) : ∃ fd, FunD K d.name d.qual d.params d.body d.scope [] [] (gtA K d.at_) fd := by
  unfold GtD.ok at c
  obtain ⟨_, c⟩ := He.ba c
  obtain ⟨kp, c2⟩ := He.ba c
  unfold gtW at e
  generalize gtA K d.at_ = f at *
  cases q : K.lookup f with
  | none =>
    rw [q] at c2
    cases c2
  | some o =>
    obtain ⟨oc, od, dt, osl⟩ := o
    rw [q] at c2 e
    cases dt with
    | func fd =>
      obtain ⟨n1, n2, n3, n4, n5, n6, n7, n8, n9, n10, n11, n12, n13, n14, n15⟩ := fd
      have e2 : (some (n1, n2, n3, n4, n5, n6, n7, n15) : He.FnW) = some (d.name, d.qual, d.params, .stmts d.body, d.scope, mainGlobals, [], builtinsNs) := e
      simp only [Option.some.injEq, Prod.mk.injEq] at e2
      obtain ⟨h1, h2, h3, h4, h5, h6, h7, h8⟩ := e2
      subst h1 h2 h3 h4 h5 h6 h7 h8
      have c3 : (PySem.W.codeIn K n13 d.qual && (He.dflB K n8 [] && He.kwdB K n9 [])) = true := c2
      obtain ⟨k1, k2⟩ := He.ba c3
      obtain ⟨k3, k4⟩ := He.ba k2
      exact ⟨_, ⟨oc, od, n8, n9, n10, n11, n12, n13, n14, osl, rfl, q, k1, He.dflB_ok k3, He.kwdB_ok k4⟩, kp⟩
    | _ => cases c2
def SaysG (gs : List GtD) (K : PySem.W.Frag) : Prop := (gs.all (fun d => d.ok K), gs.map fun d => gtW K d.at_) = (true, gs.map GtD.val)
theorem SaysG.get {gs : List GtD} {K : PySem.W.Frag} (c : SaysG gs K) (i : Nat) {d : GtD} (h : gs[i]? = some d := by rfl) : PropOf K (He.ga K d.at_.1) d.at_.2 (prA K d.at_) (gtA K d.at_) ∧ ∃ fd, FunD K d.name d.qual d.params d.body d.scope [] [] (gtA K d.at_) fd := by
  have c1 : gs.all (fun d => d.ok K) = true := congrArg Prod.fst c
  have c2 : gs.map (fun d => gtW K d.at_) = gs.map GtD.val := congrArg Prod.snd c
  have m := List.mem_of_getElem? h
  have ok := List.all_eq_true.mp c1 d m
  refine ⟨propB_ok (He.ba (show (propB K d.at_ && _) = true from ok)).1, GtD.funD ?_ ok⟩
  have e := congrArg (fun l => l[i]?) c2
  simp only [List.getElem?_map, h, Option.map_some, Option.some.injEq] at e
  exact e
/-! ### a def by its place -/
section
variable {P : Program} {w : World} {K : PySem.W.Frag} {mg : Str → Option Value} {base : Heap} {x qual : Str} {params : Arguments} {body : List Stmt} {scope : Scope} {kws : List (Str × V)} {f : Addr} {fd : FuncData}
end
/-- a property of the rules' class -/
structure Gt (P : Program) (w : World) (K : PySem.W.Frag) (mg : Str → Option Value) (base : Heap) (f : Str) (k : Nat) (g : FnM) : Prop where
  ex : ∃ p a fd ps, PropOf K (He.ga K "Rule") f p a ∧ FnOk P w K mg base (L2.CX P w) k a fd ps (spM w K 1 g) ∧ Binds K fd ps []
section
variable {X : Cx} {W : WX} {k k' : Nat} {g : FnM} {e : Expr} {f : Str} {pos : Pos} {m : M D}
end
end Mi

set_option Elab.async false
set_option linter.all false
set_option maxRecDepth 100000
set_option maxHeartbeats 4000000
/-! Mirrors, part M14: the rules' own ==, and != by it. -/
namespace Mi
open PySem PySem.Spec PyProof.Rows L2
/-! ### the snapshot -/
structure EqCls (K : PySem.W.Frag) : Prop where
  c : ∃ nm q N bs sn sub ab col dd k0 k1 k2 k3 k5 n hd, K.lookup (He.ga K "Rule") = some (excClassObj nm q (He.ga K "Rule") N bs [.type "object"] hd sn sub ab col dd k0 k1 k2 k3 k5 n) ∧ PySem.W.nsOkIn K N = true ∧ PySem.W.nsIn K N "__eq__" = some (some (.ref (He.ma K (He.ga K "Rule") "__eq__"))) ∧ PySem.W.nsIn K N "__ne__" = some none
  f : PySem.W.findIn K (.ref (He.ga K "Rule")) "__eq__" = some (some (.ref (He.ma K (He.ga K "Rule") "__eq__")))
  fn : PySem.W.isFn K (.ref (He.ma K (He.ga K "Rule") "__eq__")) = true
  tu : PySem.W.subIn K (.type "tuple") (.ref (He.ga K "Rule")) = some false
  o : ∃ d dt sl, K.lookup (He.ma K (He.ga K "Rule") "__eq__") = some ⟨.type "function", d, dt, sl⟩
/-- the class's == -/
structure EqFn (P : Program) (w : World) (K : PySem.W.Frag) (mg : Str → Option Value) (base : Heap) (k : Nat) (g : FnM) : Prop where
  c : EqCls K
  ex : ∃ fd ps, FnOk P w K mg base (L2.CX P w) k (He.ma K (He.ga K "Rule") "__eq__") fd ps (spM w K 2 g) ∧ Binds K fd ps []
section
variable {X : Cx} {W : WX} {k k' : Nat} {g : FnM} {a b : Expr} {ma mb : M Ref} {pos : Pos}
end
end Mi

set_option Elab.async false
set_option linter.all false
set_option maxRecDepth 100000
set_option maxHeartbeats 4000000
/-! Mi, part M15: a comprehension over one's own list, which stays one's own. -/
namespace Mi
open PySem PySem.Spec PyProof.Rows L2
section
variable {w : World} {K : PySem.W.Frag} {ra : Addr} {HK : Kp} {F F' H H' : Hp} {e : Env} {σ : St}
end
section
variable {X : Cx} {W : WX} {elt tg : Expr} {ifs : List Expr} {scope : Scope} {own : List (Str × Nat)} {pos xpos : Pos} {g : D → M Unit} {t : M Bool} {el : M D} {is : List Nat} {x : Str}
end
end Mi

set_option Elab.async false
set_option linter.all false
set_option maxRecDepth 100000
set_option maxHeartbeats 4000000
/-! Mi, part M16: texts: str, int of a text, join, split, f-strings. -/
namespace Mi
open PySem PySem.Spec PyProof.Rows L2
def intTF (d : D) : Option D := match d with
  | .str a => (match PySem.intText? a with
    | some n => if a.length ≤ 640 then some (.int n) else none
    | none => none)
  | _ => none
def strF (d : D) : Option D := match d with
  | .int i => if i.natAbs.log2 < 1920 then some (.str (toString i)) else none
  | _ => none
def splitF (a : Str) (d : D) : Option OD := match d with
  | .str b => if (b.length == 0) = false ∧ a.length ≤ 1000000 then some (.lst ((Txt.split a b).map D.str)) else none
  | _ => none
def splitM (ma : M D) (mb : M Ref) : M OD := bindM ma fun d => match d with
  | .str a => bindM mb fun y => bindM (derefM y) fun d' => liftO (splitF a d')
  | _ => errM
section
variable {X : Cx} {W : WX} {a b : Expr} {ma : M D} {mr mb : M Ref} {apos pos : Pos}
theorem c1s_intT : C1S X.w X.K (fun xs H Q => ∃ a n, xs = [.str a] ∧ PySem.intText? a = some n ∧ a.length ≤ 640 ∧ Q (.int n) H) intTF := by
  intro ra HK F e σ H x d z Q R hx hz q
  cases d with
  | str i =>
    unfold intTF at hz
    simp only at hz
    cases hn : PySem.intText? i with
    | none =>
      rw [hn] at hz
      cases hz
    | some n =>
      rw [hn] at hz
      simp only at hz
      by_cases c : i.length ≤ 640
      · rw [if_pos c] at hz
        cases hz
        exact ⟨i, n, by rw [hx.str_], hn, c, q _ F H (Same.refl F) R (.int _)⟩
      · rw [if_neg c] at hz
        cases hz
  | _ => cases hz
theorem pm_intT {p : Pos} (hm : X.mg "int" = none) (ha : PMR X W a mr) (hg : Gl X "int" := by rfl) (hse : starEach [a] X.env = (false, eval a X.env) :: starEach [] X.env := by rfl) : PM X W (.Call (.Name "int" p) [a] [] pos) (op1M mr intTF) :=
  pm_callT1 call_int_str c1s_intT hm boot_int ha hg (by decide) (by decide) hse
theorem c1s_str : C1S X.w X.K (fun xs H Q => ∃ i, xs = [.int i] ∧ i.natAbs.log2 < 1920 ∧ Q (.str (toString i)) H) strF := by
  intro ra HK F e σ H x d z Q R hx hz q
  cases d with
  | int i =>
    unfold strF at hz
    simp only at hz
    by_cases c : i.natAbs.log2 < 1920
    · rw [if_pos c] at hz
      cases hz
      exact ⟨i, by rw [hx.int_], c, q _ F H (Same.refl F) R (.str _)⟩
    · rw [if_neg c] at hz
      cases hz
  | _ => cases hz
theorem pm_toStr {p : Pos} (hm : X.mg "str" = none) (ha : PMR X W a mr) (hg : Gl X "str" := by rfl) (hse : starEach [a] X.env = (false, eval a X.env) :: starEach [] X.env := by rfl) : PM X W (.Call (.Name "str" p) [a] [] pos) (op1M mr strF) :=
  pm_callT1 call_str_int c1s_str hm boot_str ha hg (by decide) (by decide) hse
theorem pmo_split (ha : PM X W a ma) (hb : PMR X W b mb) (hs : starEach [b] X.env = [(false, eval b X.env)] := by rfl) (hbase : attributeBase a "split" X.env (eval a X.env) = eval a X.env := by rfl) (hline : (apos.endLine == pos.line) = true := by rfl) :
    PMO X W (.Call (.Attribute a "split" apos) [b] [] pos) (splitM ma mb) := by
  refine PE.weaken (pe_split ha hb hs hbase hline) ?_
  rintro σ H Q ⟨ra, HK, F, e, R, hw⟩
  unfold splitM at hw
  refine stepG R hw fun F1 e1 d v H1 s1 R1 r1 q1 => ?_
  cases d with
  | str x =>
    cases r1
    refine ⟨⟨x, rfl⟩, stepG R1 q1 fun F2 e2 r v2 H2 s2 R2 r2 q2 => ?_⟩
    obtain ⟨d', hd, q3, _⟩ := R2.deref r2 q2
    cases d' with
    | str y =>
      unfold liftO splitF at q3
      simp only at q3
      by_cases c : (y.length == 0) = false ∧ x.length ≤ 1000000
      · rw [if_pos c] at q3
        refine ⟨x, y, rfl, by rw [hd.str_], c.1, ?_, fun p hp => ?_⟩
        · have : (1000002 : Nat) ≤ sizeLine := by decide
          omega
        · obtain ⟨f1, f2, f3, f4⟩ := fresh_own R2 hp (o := .lst ((Txt.split x y).map D.str)) (.inr trivial)
          refine q3 _ _ _ (Same.refl F2) (R2.grow hp _) ⟨p, rfl, ⟨_, upd_same, ?_⟩, f1, f2, f3, f4⟩
          generalize Txt.split x y = l
          induction l with
          | nil => exact .nil
          | cons z l ih => exact .cons (.str z) ih
      · rw [if_neg c] at q3
        exact q3.elim
    | _ => exact q3.elim
  | _ => exact q1.elim
/-! ### f-strings -/
end
end Mi

set_option Elab.async false
set_option linter.all false
set_option maxRecDepth 100000
set_option maxHeartbeats 4000000
/-! Mi, part M17: how often a truth value stands in a list. -/
namespace Mi
open PySem PySem.Spec PyProof.Rows L2
section
variable {X : Cx} {W : WX} {a b : Expr} {ma mb : M D} {apos pos : Pos}
end
end Mi

set_option Elab.async false
set_option linter.all false
set_option maxRecDepth 100000
set_option maxHeartbeats 4000000
/-! Mi, part M18: x[i] op= e on a list of one's own, whole numbers. -/
namespace Mi
open PySem PySem.Spec PyProof.Rows L2
section
variable {X : Cx} {W : WX} {x : Str} {p tpos pos : Pos}
end
end Mi

set_option Elab.async false
set_option linter.all false
set_option maxRecDepth 100000
set_option maxHeartbeats 4000000
/-! Mi, part M19: a rule made and a field of it set at once. -/
namespace Mi
open PySem PySem.Spec PyProof.Rows L2
section
variable {X : Cx} {W : WX} {k k' : Nat} {g : FnM} {e : Expr} {es : List Expr} {p pos : Pos} {r : M (List D)}
end
section
variable {w : World} {K : PySem.W.Frag} {ra : Addr} {HK : Kp} {F F' H H' : Hp} {e : Env} {σ : St}
end
section
variable {X : Cx} {W : WX}
end
end Mi

set_option Elab.async false
set_option linter.all false
set_option maxRecDepth 100000
set_option maxHeartbeats 4000000
/-! Mi, part M20: min(words, key=f), f a def that tells (how long, the word). -/
namespace Mi
open PySem PySem.Spec PyProof.Rows L2
open PySem.W (dataLt keyToks iter_listW argBest_fold)
/-- nothing but new tuples -/
def Grown (H H' : Hp) : Prop := ∀ b, H' b = H b ∨ (H b = none ∧ ∃ xs, H' b = some (.tup xs))
theorem Grown.refl (H : Hp) : Grown H H := fun _ => .inl rfl
theorem Grown.at {H H' : Hp} (g : Grown H H') {b : Addr} (h : H b ≠ none) : H' b = H b := (g b).elim id fun z => absurd z.1 h
theorem Grown.same {H H' : Hp} (g : Grown H H') : Same H H' := fun b u e => (g.at (by rw [e]; exact fun z => by cases z)).trans e
theorem Grown.free {H H' : Hp} (g : Grown H H') {b : Addr} (h : H' b = none) : H b = none := (g b).elim (fun z => z ▸ h) fun z => z.1
theorem Grown.step {H H' : Hp} (g : Grown H H') {a : Addr} (h : H' a = none) (xs : List V) : Grown H (upd H' a (.tup xs)) := fun b => by
  by_cases c : b = a
  · subst c
    exact .inr ⟨g.free h, xs, upd_same⟩
  · rw [upd_ne c]
    exact g b
/-! ### the order -/
/-! ### the key's promise -/
def spOrd (K : PySem.W.Frag) : Sp := fun vs H Q _ => ∃ b ns, vs = [.ref b] ∧ SqT K H b (List.map V.int ns) ∧ ∀ a, H a = none → Q (.ref a) (upd H a (.tup [.int ns.length, .ref b]))
structure FnOrd (P : Program) (w : World) (K : PySem.W.Frag) (mg : Str → Option Value) (base : Heap) (x : Str) (k : Nat) : Prop where
  ex : ∃ f fd ps, FnOk P w K mg base (L2.CX P w) k f fd ps (spOrd K) ∧ mg x = some (.ref f) ∧ PySem.W.keepIn K (.ref f) = true ∧ Binds K fd ps []
section
variable {X : Cx} {W : WX}
end
end Mi

set_option Elab.async false
set_option linter.all false
set_option maxRecDepth 100000
set_option maxHeartbeats 4000000
/-! Mi, part M21: zip of a tuple and a list. -/
namespace Mi
open PySem PySem.Spec PyProof.Rows L2
section
variable {X : Cx} {W : WX}
end
end Mi

set_option Elab.async false
set_option linter.all false
set_option maxRecDepth 100000
set_option maxHeartbeats 4000000
/-! Mi, part M22: lists of one's own by +; xs[::-1] of a list; a new list that a call gives back. -/
namespace Mi
open PySem PySem.Spec PyProof.Rows L2
section
variable {X : Cx} {W : WX} {a b : Expr} {ma mb : M Ref} {pos : Pos}
end
/-! ### a call whose list is new -/
section
variable {w : World} {K : PySem.W.Frag} {ra : Addr} {F : Hp}
end
section
variable {X : Cx} {W : WX} {x : Str} {k k' n : Nat} {g : FnM} {e : Expr} {es : List Expr} {p pos : Pos} {r : M (List D)}
end
end Mi

set_option Elab.async false
set_option linter.all false
set_option maxRecDepth 100000
set_option maxHeartbeats 4000000
/-! Mi, part M23: three and four names at once, where a name is read from inside or there are four. -/
namespace Mi
open PySem PySem.Spec PyProof.Rows L2
section
variable {X : Cx} {W : WX} {r : M (List Slot)}
end
end Mi

set_option Elab.async false
set_option linter.all false
set_option maxRecDepth 100000
set_option maxHeartbeats 4000000
/-! Mi, part M24: max of a tuple of whole numbers. -/
namespace Mi
open PySem PySem.Spec PyProof.Rows L2
section
variable {X : Cx} {W : WX} {a : Expr} {ma : M Ref} {pos : Pos}
end
end Mi

set_option Elab.async false
set_option linter.all false
set_option maxRecDepth 100000
set_option maxHeartbeats 4000000
/-! Mi, part M36: an error caught and kept behind its clause (with mi19.py's texts alone). -/
namespace Mi
open PySem PySem.Spec PyProof.Rows L2
section
variable {X : Cx} {pins : List (Addr × Obj)} {σ : L2.St} {H : Hp} {s : Shared}
/-- an error that nobody tracks yet is tracked from now on -/
theorem adopt {a : Addr} {oe : Obj} {cls : Value} {d : Option Addr} {vs : Array Value} (I : Inv X pins σ H s) (ha : s.heap.get? a = some oe) (hz : Zc cls d oe) (hd : oe.data = .fields vs) (na : H a = none) (h0 : ∀ u, X.s_0.heap.get? a = some u → a ∈ X.ex) (nL : a ≠ X.env.locals) (np : ∀ p ∈ X.pn ++ pins, p.1 ≠ a) : Inv X pins σ (upd H a (ExT cls d a)) s where
  ok := I.ok
  os := I.os
  bare := I.bare
  base :=
    { keep := I.base.keep
      slot := I.base.slot
      free := fun b u q n hx => by
        rw [upd_ne fun z => by subst z; exact hx (h0 u q)]
        exact I.base.free b u q n hx
      there := I.base.there
      tups := fun b xs q => by
        have e := I.base.tups b xs q
        rw [upd_ne fun z => by rw [z, na] at e; cases e]
        exact e
      frzs := fun b o u q => by
        have e := I.base.frzs b o u q
        rw [upd_ne fun z => by rw [z, na] at e; cases e]
        exact e
      tbls := fun b ps q => by
        obtain ⟨m, e⟩ := I.base.tbls b ps q
        exact ⟨m, by rw [upd_ne fun z => by rw [z, na] at e; cases e]; exact e⟩ }
  loc := I.loc
  cell := I.cell
  free := by
    rw [upd_ne nL.symm]
    exact I.free
  freeC := fun x c e => by
    rw [upd_ne fun z => by
      subst z
      obtain ⟨v, o, ho, hv⟩ := I.cell x _ e
      rw [ha] at ho
      cases ho
      rw [hd] at hv
      cases hv]
    exact I.freeC x c e
  pin := fun p hp => by
    obtain ⟨p1, p2, p3⟩ := I.pin p hp
    exact ⟨p1, by rw [upd_ne (np p hp)]; exact p2, p3⟩
  hok := HOk.laidN I.hok (fun b u q => q) na ⟨⟨oe, vs, ha, hz, hd, fun v z => by rw [hd] at z; cases z⟩, ⟨oe, ha⟩, fun _ _ ⟨o, v, q, r⟩ k => ⟨o, v, k o q, r⟩⟩
  len := I.len
end
/-- what the clause 'except x as n' wishes of an error that is kept -/
def wKp (K : PySem.W.Frag) (c : Value) (i : Nat) (ts : Addr → Value → Option Addr → TS) (Wout : WX) (D : Ends) : WX := fun cls d σ H =>
  ∃ b, PySem.W.exmOne K cls c = some b ∧ (b = true → ∀ a, H a = none → ts a cls d { nx := fun σ' H' => D.nx (σ'.set i none) (upd H' a (ExT cls d a)), rt := fun _ _ => False, bk := fun _ _ => False, ct := fun _ _ => False } (σ.set i (some (.ref a))) H) ∧
    (b = false → Wout cls d σ H)
section
variable {X : Cx} {x n : Str} {c : Value} {i : Nat} {body suite : List Stmt} {b₀ : Stmt} {np pos pos' : Pos} {tb : WX → TS} {ts : Addr → Value → Option Addr → TS} {Wout : WX}
theorem ps_try_keep (hs : X.stack = X.env :: X.outer) (hf : X.env.frame = some X.env.locals) (hN : X.N.Nodup) (hi : X.N[i]? = some n) (hln : X.env.kindOf n = some .local) (hc : Names X x c) (tk : Takes X Wout)
    (hb : ∀ (W : WX) (pn : List (Addr × Obj)) (xe : Value → Shared → Prop), Takes (X.tr pn xe) W → PassesOwn (model X.prog X.w) X.A X.env xe → PSs (X.tr pn xe) body (tb W))
    (hsu : ∀ (a : Addr) (oe : Obj) (cls : Value) (d : Option Addr) (pn : List (Addr × Obj)), Zc cls d oe → (∃ vs, oe.data = .fields vs) → PSs (X.suite a ((a, oe) :: pn)) (b₀ :: suite) (ts a cls d)) :
    PS X (.Try body [.ExceptHandler (some (.Name x np)) (some n) (b₀ :: suite) pos'] [] [] pos) (fun D σ H => tb (wKp X.K c i ts Wout D) D σ H) := by
  refine ⟨fun pins s σ H D I h => ?_⟩
  have ok := I.ok
  have hfr : X.A.frames = some (X.env :: X.outer) := by rw [ok.frames, hs]
  have hloc : Loc X.env.scope n := .inl hln
  refine wpAny_Try_except ?_
  refine wpAny_mono ((hb (wKp X.K c i ts Wout D) (X.pn ++ pins) (fun e s₁ => wpAny (model X.prog X.w) X.A (noteFrame e X.env) (fun _ s₂ => wpAny (model X.prog X.w) X.A (setFlight e none) (fun _ s₃ =>
    wpAny (model X.prog X.w) X.A (handleBy e X.env [.ExceptHandler (some (.Name x np)) (some n) (b₀ :: suite) pos']) (SP X pins D) X.xe s₃) X.xe s₂) X.xe s₁) (fun u s' xx => ?_) PassesOwn.looking).run [] s σ H D (I.toTry _) h) (fun f s1 hsp => ?_) (fun e s1 he => he)
  · obtain ⟨a, B, sI, pins', σ', H', cls, d, rfl, J', nb, up, sky, na, os, ag, b, hb1, hyes, hno⟩ := xx
    have J : Inv X pins σ' H' sI := J'.ofTry ok
    have sky' : Sky B (X.env :: X.outer) a (Zc cls d) X.env.locals s'.heap := by rw [← hs]; exact sky
    show wpAny (model X.prog X.w) X.A (noteFrame (.ref a) X.env) _ _ _
    refine Sky.land Zc.steady hfr hf sky' fun h3 fl3 up3 => ?_
    have J3 : Inv X pins σ' H' { s' with heap := h3 } := J.landed nb fl3.1 (up.trans up3) os ag
    obtain ⟨oe3, vs3, he3, hz3, hd3⟩ := fl3.there
    have notFr : ∀ {h : Heap} {o : Obj} {vs : Array Value}, h.FunFrames B (X.env :: X.outer) → h.get? a = some o → o.data = .fields vs → a ∉ frs (X.env :: X.outer) := fun {h o vs} ff e dd hm => by
      obtain ⟨_, o', e', hnf⟩ := ff.mem hm
      rw [e] at e'; cases e'
      exact hnf _ dd
    have nfr := notFr fl3.2.2.1 he3 hd3
    have nL : a ≠ X.env.locals := fun z => nfr (List.mem_filterMap.mpr ⟨X.env, List.mem_cons_self, by rw [hf, z]⟩)
    have nF : a ∉ X.fs := fun hm => by
      obtain ⟨e, he, q⟩ := List.mem_filterMap.mp hm
      exact nfr (List.mem_filterMap.mpr ⟨e, List.mem_cons_of_mem _ he, q⟩)
    have newI : ∀ o, sI.heap.get? a = some o → False := fun o e => by
      have e2 := nb a o e (by show a ∉ frs X.stack; rw [hs]; exact nfr)
      rw [fl3.2.1] at e2
      cases e2
    have h0 : ∀ u, X.s_0.heap.get? a = some u → a ∈ X.ex := fun u e => Classical.byContradiction fun hx => by
      obtain ⟨o', q⟩ := J.base.there a u e hx
      exact newI o' q
    have npn : ∀ p ∈ X.pn ++ pins, p.1 ≠ a := fun p hp z => newI p.2 (by rw [← z]; exact (J.pin p hp).1)
    have S3 := J3.suite he3 hd3 na nL nF
    refine wpAny_handleBy_cons (codeAny_handlers_test ?_) (by intro q; cases q)
    have LT : PySem.W.Looks (model X.prog X.w) h3 (typeOf (.ref a)) cls := fun A Q E s k q => wpAny_typeOf_ref (k _ _ he3) (by rw [hz3.1]; exact q)
    have LM := PySem.W.exm_one (M := model X.prog X.w) (J3.kIn) LT hb1
    have test : ∀ {Q : Value → Shared → Prop} {E : Value → Shared → Prop}, Q c { s' with heap := h3 } → wpAny (model X.prog X.w) (X.A.mark (some (.ref a))) (eval (.Name x np) X.env) Q E { s' with heap := h3 } := fun {Q E} q => by
      obtain ⟨hg, hdbg, hm | ⟨hm, hv, hnn⟩⟩ := hc
      · exact ld_glob (X := X.suite a ((a, oe3) :: (X.pn ++ pins))) S3 hg hm q hdbg
      · exact ld_blt (X := X.suite a ((a, oe3) :: (X.pn ++ pins))) S3 hg hm hv q hnn hdbg
    refine test (LM.here ?_)
    cases b with
    | true =>
      refine codeAny_handlers_suite_as ?_
      refine HandSPX.lands_againZ fl3 fun h4 fl4 up4 => ?_
      have J4 : Inv X pins σ' H' { s' with heap := h4 } := J.landed nb fl4.1 ((up.trans up3).trans up4) os ag
      obtain ⟨oe4, vs4, he4, hz4, hd4⟩ := fl4.there
      have S4 := J4.suite he4 hd4 na nL nF
      refine store_ok (X := X.suite a ((a, oe4) :: (X.pn ++ pins))) (v := .ref a) S4 hN hi hloc rfl (fun s5 S5 => ?_) (.inr hln)
      refine wpAny_mono ((hsu a oe4 cls d (X.pn ++ pins) hz4 ⟨_, hd4⟩).run [] s5 _ H' _ S5 (hyes rfl a na)) (fun f s6 hsp => ?_) (fun _ _ z => False.elim z)
      cases f with
      | next =>
        obtain ⟨σ6, H6, S6, q6⟩ := hsp
        obtain ⟨g1, g2, _⟩ := S6.pin (a, oe4) (List.mem_append_left _ List.mem_cons_self)
        exact gone_ok (adopt (S6.unsuite ok) g1 hz4 hd4 g2 h0 nL npn) hN hi hln fun s7 J7 => ⟨_, _, J7, q6⟩
      | brk =>
        obtain ⟨σ6, H6, S6, q6⟩ := hsp
        exact q6.elim
      | cont =>
        obtain ⟨σ6, H6, S6, q6⟩ := hsp
        exact q6.elim
      | ret u =>
        obtain ⟨v6, σ6, H6, S6, r6, q6⟩ := hsp
        exact q6.elim
    | false =>
      show wpAny _ X.A (handleBy (.ref a) X.env []) _ _ _
      refine wpAny_handleBy_nil ?_
      obtain ⟨k1, k2, k3, oe, vs, T, oT, ts', he, hz, hd, h1, hr⟩ := id fl3
      unfold PySem.passOn
      refine wpAny_bind (wpAny_field he hd h1 ?_)
      rw [if_neg (show ¬ ((Value.ref T == Value.none) = true) from by simp)]
      have fin : wpAny (model X.prog X.w) X.A (setFlight (.ref a) X.env.frame) (fun _ s4 => wpAny (model X.prog X.w) X.A (throw (.ref a) : Sem Flow) (SP X pins D) X.xe s4) X.xe { s' with heap := h3 } := by
        rw [hf]
        refine HandSPX.setFlight_upZ fl3 fun h4 hh4 up4 => wpAny_throw (tk _ _ ?_)
        exact ⟨a, B, sI, pins, σ', H', cls, d, rfl, J, nb, (up.trans up3).trans up4, .inr (.inr (by rw [hs]; exact hh4)), na, os, ag, hno rfl⟩
      first
        | exact wpAny_bind (wpAny_pure (wpAny_bind fin))
        | exact wpAny_bind fin
  · cases f with
    | next =>
      obtain ⟨σ', H', J', q⟩ := hsp
      exact wpAny_execs_nil ⟨σ', H', J'.ofTry ok, q⟩
    | brk =>
      obtain ⟨σ', H', J', q⟩ := hsp
      exact ⟨σ', H', J'.ofTry ok, q⟩
    | cont =>
      obtain ⟨σ', H', J', q⟩ := hsp
      exact ⟨σ', H', J'.ofTry ok, q⟩
    | ret u =>
      obtain ⟨v, σ', H', J', r, q⟩ := hsp
      exact ⟨v, σ', H', J'.ofTry ok, r, q⟩
end
/-! ### the mirror -/
def keepD (x : Exn) : D := .exn x.cls (x.fs.map (·.1)) (x.fs.map (·.2))
def tryK (cs : List Str) (b : M Fl) (i j : Nat) : M Fl := fun e => match b e with
  | .exc x e' => if (cs.contains x.cls && (decide (i < e'.sl.length) && decide (j < e'.sl.length))) = true then .ok .nx { e' with sl := (((e'.sl.set i .no).set j (.val (keepD x))).set i .no) } else .err
  | r => r
section
variable {X : Cx} {W : WX} {cs : List Str}
theorem psm_tryK {i j : Nat} {y n : Str} {py np p2 pos1 pos pos' : Pos} {body : List Stmt} {b : M Fl} (T : ExTab X.K X.mg cs) (tk : Takes X W) (hst : X.stack = X.env :: X.outer) (hf : X.env.frame = some X.env.locals)
    (hb : ∀ (W' : WX) (pn : List (Addr × Obj)) (xe : Value → Shared → Prop), Takes (X.tr pn xe) W' → PassesOwn (model X.prog X.w) X.A X.env xe → PSsM (X.tr pn xe) W' body b) (hN : X.N.Nodup) (hi : X.N[i]? = some n := by rfl) (hj : X.N[j]? = some y := by rfl) (hij : i ≠ j := by decide)
    (hln : X.env.kindOf n = some .local := by rfl) (hvi : Vis X.env.scope n := by first | exact Or.inl rfl | exact Or.inr (Or.inl rfl) | exact Or.inr (Or.inr rfl)) (hdn : (n == ("__debug__" : Str)) = false := by decide) (hcn : (n == ("__classdict__" : Str)) = false := by decide)
    (hgc : Gl X "CutError" := by rfl) (hyl : Loc X.env.scope y := by first | exact Or.inl rfl | exact Or.inr rfl)
    (hsw : swapsWith (.Name n p2) (some (.Name y py)) pos1.line X.env = pure false := by rfl) (hfn : X.fn y = true ∨ X.env.scope.names.lookup y = some .local := by first | exact .inl rfl | exact .inr rfl | assumption) :
    PSM X W (.Try body [.ExceptHandler (some (.Name "CutError" np)) (some n) [.Assign [.Name y py] (.Name n p2) pos1] pos'] [] [] pos) (tryK cs b i j) := by
  refine PS.weaken (ps_try_keep (Wout := W) (tb := fun W' => tS X.w X.K W' b) hst hf hN hi hln ⟨hgc, by decide, .inl (T.g _ T.cut)⟩ tk hb fun a oe cls d pn hz hfd => pss_one (ps_set (X := X.suite a ((a, oe) :: pn)) (pos := pos1) (pos' := py) hN hj hyl (pe_var (X := X.suite a ((a, oe) :: pn)) (i := i) hi hvi hdn hcn) hsw hfn)) ?_
  rintro D' σ H ⟨ra, HK, F, e, R, h⟩
  unfold tryK at h
  refine ⟨ra, HK, F, e, R, ?_⟩
  cases eb : b e with
  | err =>
    rw [eb] at h
    exact h
  | ok fl e1 =>
    rw [eb] at h
    exact h
  | exc x e1 =>
    rw [eb] at h
    intro cl d σ1 F1 H1 s1 R1 hx
    obtain ⟨rfl, hfs⟩ := id hx
    by_cases hcx : (cs.contains x.cls && (decide (i < e1.sl.length) && decide (j < e1.sl.length))) = true
    · simp only [if_pos hcx] at h
      simp only [Bool.and_eq_true, decide_eq_true_eq] at hcx
      obtain ⟨hc1, hli, hlj⟩ := hcx
      have hxc : x.cls ∈ cs := by simpa using hc1
      refine ⟨exSub x.cls "CutError", T.m _ hxc _ T.cut, fun _ a ha => ?_, fun hsub => ?_⟩
      · have hl2 : i < σ1.length := by rw [← R1.len]; exact hli
        obtain ⟨R2, s2⟩ := R1.alloc ha (ExT (.ref (He.ga X.K x.cls)) d a)
        have rp : Rep X.w X.K ra (upd F1 a (ExT (.ref (He.ga X.K x.cls)) d a)) (.ref a) (keepD x) := by
          unfold keepD
          rcases hfs with ⟨h0, rfl⟩ | ⟨_, dd, vs, rfl, _, hr, fdd, _⟩
          · rw [h0]
            exact .exn0 upd_same
          · exact .exn upd_same (s2 _ _ fdd) (by have := RepA.length hr; rw [List.length_map] at this; rw [List.length_map]; exact this.symm) (RepA.mono s2 hr)
        have R3 := R2.setNo i (some (V.ref a))
        have hlj3 : j < (e1.sl.set i .no).length := by rw [List.length_set]; exact hlj
        have R4 := R3.setVal hlj3 rp
        have R5 := R4.setNo i none
        exact ⟨.ref a, List.getElem?_set_self hl2, h _ _ _ (s1.trans s2) R5⟩
      · unfold exSub at hsub
        simp at hsub
    · simp only [if_neg hcx] at h
      exact h.elim
end
end Mi

set_option Elab.async false
set_option linter.all false
set_option maxRecDepth 100000
set_option maxHeartbeats 4000000
/-! Mi, part M37: isinstance of a kept error, and its fields. -/
namespace Mi
open PySem PySem.Spec PyProof.Rows L2
/-- what the snapshot says of the errors' classes -/
structure ErrIs (K : PySem.W.Frag) (cs : List Str) : Prop where
  c : ∀ c ∈ cs, ∀ d ∈ cs, PySem.W.kitOne K (.ref (He.ga K c)) (.ref (He.ga K d)) = some (exSub c d)
  v : ∀ c ∈ cs, PySem.W.kitOne K (.ref (He.ga K c)) (.type "ValueError") = some true
def errB (cs : List Str) (K : PySem.W.Frag) : Bool := cs.all fun c => decide (PySem.W.kitOne K (.ref (He.ga K c)) (.type "ValueError") = some true) && cs.all fun d => decide (PySem.W.kitOne K (.ref (He.ga K c)) (.ref (He.ga K d)) = some (exSub c d))
theorem errB_ok {cs : List Str} {K : PySem.W.Frag} (h : errB cs K = true) : ErrIs K cs := by
  unfold errB at h
  have h1 : ∀ c ∈ cs, _ := List.all_eq_true.mp h
  refine ⟨fun c hc d hd => ?_, fun c hc => ?_⟩
  · exact of_decide_eq_true (List.all_eq_true.mp (Bool.and_eq_true_iff.mp (h1 c hc)).2 d hd)
  · exact of_decide_eq_true (Bool.and_eq_true_iff.mp (h1 c hc)).1
def rIsK (K : PySem.W.Frag) : List V → Hp → VK → Prop := fun xs H Q => ∃ (a D : Addr) (d : Option Addr) (c : V) (cv : Value) (b : Bool), xs = [.ref a, c] ∧ H a = some (ExT (.ref D) d a) ∧ ExcC K D ∧ (∀ u, RelV c u → u = cv) ∧ PySem.W.kitOne K (.ref D) cv = some b ∧ (d = none ∨ ∃ dd fs, d = some dd ∧ H dd = some (.xd fs)) ∧ Q (.bl b) H
section
variable {X : Cx}
theorem call_isK : CallR X (.builtin "isinstance") (rIsK X.K) := by
  intro pins s σ H xs us Q I r h
  obtain ⟨a, D, d, c, cv, b, rfl, hH, C, hcv, e, hd, q⟩ := h
  cases r with
  | cons rx rr =>
    cases rr with
    | cons rt rr =>
      cases rr
      cases rx
      have ec := hcv _ rt
      subst ec
      have ho : ObjOk X.prog X.w H s.heap a (ExT (.ref D) d a) := I.hok a _ hH
      obtain ⟨⟨oe, vs, hget, hz, hv, _⟩, _⟩ := ho
      have nc : PySem.W.notCls oe := by
        unfold PySem.W.notCls
        rw [hv] <;> rfl
      have hcl : (PySem.W.clsIn X.K D).isSome = true := by
        obtain ⟨cd, hc, _⟩ := PySem.W.any_some C.hd
        rw [hc]
        rfl
      have J : ∃ od, PySem.W.InstAt s.heap a oe D od := by
        rcases hd with rfl | ⟨dd, fs, rfl, hH2⟩
        · exact ⟨none, hget, hz.1, nc, by rw [hz.2]; trivial⟩
        · have hx : ObjOk X.prog X.w H s.heap dd (.xd fs) := I.hok dd _ hH2
          obtain ⟨mA, hns, _⟩ := hx
          obtain ⟨od, ho, _⟩ := lookIn_ns hns
          exact ⟨some od, hget, hz.1, nc, by rw [hz.2]; exact ho⟩
      obtain ⟨od, J⟩ := J
      exact PySem.W.kia_one (PySem.W.kitx_exc hcl C.hg C.hk C.hs C.ha C.hn C.ht C.hm) I.kIn J e (fun z => nomatch z) fun tk => ⟨.bl b, H, I.kept (t' := tk) fun _ _ z => z, rfl, q⟩
end
/-- the class of an error among these, and what is asked of it -/
def isxF (cs : List Str) (f : Str → Bool) (d : D) : Option D := match d with
  | .exn c _ _ => if cs.contains c = true then some (.bl (f c)) else none
  | _ => none
/-- the error's field -/
def xfF (tab : List (Str × List Str)) (f : Str) (d : D) : Option D := match d with
  | .exn c ns l => if (tab.any fun p => p.1 == c && p.2.contains f) = true then (ns.zip l).lookup f else none
  | _ => none
section
variable {X : Cx} {W : WX} {a : Expr} {ma : M Ref} {cs : List Str}
/-- a kept error, read from its data -/
theorem rep_exn {w : World} {K : PySem.W.Frag} {ra : Addr} {F H : Hp} {v : V} {c : Str} {ns : List Str} {l : List D} (fh : Same F H) (r : Rep w K ra F v (.exn c ns l)) : ∃ p d, v = .ref p ∧ H p = some (ExT (.ref (He.ga K c)) d p) ∧ (d = none ∨ ∃ dd fs, d = some dd ∧ H dd = some (.xd fs)) ∧ (∀ f z, (ns.zip l).lookup f = some z → ∃ dd fs u, d = some dd ∧ H dd = some (.xd fs) ∧ fs.lookup f = some u ∧ Rep w K ra F u z) := by
  cases r with
  | @exn0 p _ h => exact ⟨p, none, rfl, fh _ _ h, .inl rfl, fun f z hz => by cases hz⟩
  | @exn p dd _ _ vs _ h h2 hl hr =>
    refine ⟨p, some dd, rfl, fh _ _ h, .inr ⟨dd, _, rfl, fh _ _ h2⟩, fun f z hz => ?_⟩
    have key : ∀ {ns : List Str} {l : List D} {vs : List V}, RepA w K ra F vs l → (ns.zip l).lookup f = some z → ∃ u, (ns.zip vs).lookup f = some u ∧ Rep w K ra F u z := by
      intro ns
      induction ns with
      | nil => intro l vs _ h; cases h
      | cons n ns ih =>
        intro l vs hr h
        cases hr with
        | nil => cases h
        | @cons v1 d1 vs l r1 r2 =>
          rw [List.zip_cons_cons, List.lookup_cons] at h ⊢
          cases e : f == n with
          | true =>
            rw [e] at h
            cases h
            exact ⟨v1, rfl, r1⟩
          | false =>
            rw [e] at h
            exact ih r2 h
    obtain ⟨u, hu, ru⟩ := key hr hz
    exact ⟨dd, _, u, rfl, fh _ _ h2, hu, ru⟩
theorem held_exn {w : World} {K : PySem.W.Frag} {ra : Addr} {F H : Hp} {v : V} {c : Str} {ns : List Str} {l : List D} (h : Held w K ra F H v (.exn c ns l)) : Rep w K ra F v (.exn c ns l) := by
  generalize e : D.exn c ns l = d at h
  cases h with
  | val r => exact r
  | @own a o _ _ _ => cases o <;> cases e
theorem isx_read {f : Str → Bool} {c : V} {cv : Value} (T : ExTab X.K X.mg cs) (hcv : ∀ u, RelV c u → u = cv) (hk : ∀ x ∈ cs, PySem.W.kitOne X.K (.ref (He.ga X.K x)) cv = some (f x)) {σ : L2.St} {H : Hp} {Q : VK} (h : tG TV X.w X.K W (op1M ma (isxF cs f)) σ H Q) : tCB (rIsK X.K) (tCons (tG TR X.w X.K W ma) (tCons (tC c) tNil)) σ H Q := by
  obtain ⟨ra, HK, F, e, R, hw⟩ := h
  unfold op1M at hw
  refine stepG R hw fun F1 e1 x v H1 s1 R1 r1 q1 => ?_
  obtain ⟨d, hd, q2, _⟩ := R1.deref r1 q1
  unfold liftO at q2
  cases d with
  | exn cc ns l =>
    by_cases hc : cs.contains cc = true
    · have e1 : isxF cs f (.exn cc ns l) = some (.bl (f cc)) := if_pos hc
      rw [e1] at q2
      have hcc : cc ∈ cs := by simpa using hc
      obtain ⟨p, d', rfl, hH, hdd, _⟩ := rep_exn R1.fh (held_exn hd)
      exact ⟨p, _, d', c, cv, f cc, rfl, hH, T.i _ hcc, hcv, hk _ hcc, hdd, q2 _ F1 H1 (Same.refl F1) R1 (.bl _)⟩
    · have e1 : isxF cs f (.exn cc ns l) = none := if_neg hc
      rw [e1] at q2
      exact q2.elim
  | _ => exact q2.elim
/-- isinstance(x, C), C one of the errors -/
theorem pm_isx {C : Str} {p p2 pos : Pos} (T : ExTab X.K X.mg cs) (E : ErrIs X.K cs) (hC : C ∈ cs) (hm : X.mg "isinstance" = none) (ha : PMR X W a ma) (hg : Gl X "isinstance" := by rfl) (hgC : Gl X C := by rfl) (hd : (C == ("__debug__" : Str)) = false := by decide)
    (hse : starEach [a, .Name C p2] X.env = (false, eval a X.env) :: starEach [.Name C p2] X.env := by rfl) : PM X W (.Call (.Name "isinstance" p) [a, .Name C p2] [] pos) (op1M ma (isxF cs fun c => exSub c C)) :=
  PE.weaken (pe_callB call_isK hg hm (by decide +kernel) (pa_cons ha (pa_cons (pe_glob (v := .ref (He.ga X.K C)) hgC (T.g _ hC) rfl hd) pa_nil rfl) hse) (by decide) (by decide) hse rfl) fun σ H Q h =>
    isx_read (c := .ref (He.ga X.K C)) (cv := .ref (He.ga X.K C)) T (fun u r => r) (fun x hx => E.c x hx C hC) h
theorem pm_isv {p p2 pos : Pos} (T : ExTab X.K X.mg cs) (E : ErrIs X.K cs) (hm : X.mg "isinstance" = none) (hmV : X.mg "ValueError" = none) (ha : PMR X W a ma) (hg : Gl X "isinstance" := by rfl) (hgC : Gl X "ValueError" := by rfl)
    (hse : starEach [a, .Name "ValueError" p2] X.env = (false, eval a X.env) :: starEach [.Name "ValueError" p2] X.env := by rfl) : PM X W (.Call (.Name "isinstance" p) [a, .Name "ValueError" p2] [] pos) (op1M ma (isxF cs fun _ => true)) :=
  PE.weaken (pe_callB call_isK hg hm (by decide +kernel) (pa_cons ha (pa_cons (pe_bltn (v := .ty "ValueError") hgC hmV (by decide +kernel) rfl (by decide) (by decide)) pa_nil rfl) hse) (by decide) (by decide) hse rfl) fun σ H Q h =>
    isx_read (c := .ty "ValueError") (cv := .type "ValueError") T (fun u r => r) (fun x hx => E.v x hx) h
/-! fields -/
def tXk (K : PySem.W.Frag) (n : Str) (te : TE) : TE := fun σ H Q => te σ H fun x H1 => ∃ (a D dd : Addr) (fs : List (Str × V)) (v : V), x = .ref a ∧ H1 a = some (ExT (.ref D) (some dd) a) ∧ XfC K D ∧ PySem.W.findIn K (.ref D) n = some none ∧ H1 dd = some (.xd fs) ∧ fs.lookup n = some v ∧ Q v H1
theorem pe_xfk {e : Expr} {te : TE} {pos : Pos} {n : Str} (he : PE X e te) (hb : attributeBase e n X.env (eval e X.env) = eval e X.env := by rfl) : PE X (.Attribute e n pos) (tXk X.K n te) := by
  refine ⟨fun pins s σ H Q I h => ?_⟩
  refine attr_of hb (thn (he.run pins s σ H _ I h) fun u s1 hh => ?_)
  obtain ⟨x, H1, I1, rx, a, C, dd, fs, v, ex, ha, T, hno, ea, l, q⟩ := hh
  subst ex
  obtain rfl : u = Value.ref a := rx
  have ho : ObjOk X.prog X.w H1 s1.heap a (ExT (.ref C) (some dd) a) := I1.hok a _ ha
  obtain ⟨⟨oe, vs, hget, hz, hd, _⟩, _⟩ := ho
  have hx : ObjOk X.prog X.w H1 s1.heap dd (.xd fs) := I1.hok dd _ ea
  obtain ⟨mA, hns, hr⟩ := hx
  obtain ⟨od, ho, hl⟩ := lookIn_ns hns
  obtain ⟨u, hu, ru⟩ := RelO.some_of (v := v) (o := mA n) (by rw [← l]; exact hr n)
  have J : PySem.W.InstAt s1.heap a oe C (some od) := ⟨hget, hz.1, by unfold PySem.W.notCls; rw [hd] <;> rfl, by rw [hz.2]; exact ho⟩
  exact HandSPX.exc_get I1.kIn J T.ga T.gg T.exC (PySem.W.findObj_own T.hdC hno rfl (by rw [hl, hu])) (handed_of ru) ⟨v, H1, I1.tok _, ru, q⟩
theorem pm_xf {tab : List (Str × List Str)} {n : Str} {pos : Pos} (T : ExTab X.K X.mg cs) (XT : ∀ p ∈ tab, p.1 ∈ cs ∧ ∀ f ∈ p.2, PySem.W.findIn X.K (.ref (He.ga X.K p.1)) f = some none) (ha : PMR X W a ma) (hb : attributeBase a n X.env (eval a X.env) = eval a X.env := by rfl) : PM X W (.Attribute a n pos) (op1M ma (xfF tab n)) := by
  refine PE.weaken (pe_xfk ha hb) ?_
  rintro σ H Q ⟨ra, HK, F, e, R, hw⟩
  unfold op1M at hw
  refine stepG R hw fun F1 e1 x v H1 s1 R1 r1 q1 => ?_
  obtain ⟨d, hd, q2, _⟩ := R1.deref r1 q1
  unfold liftO at q2
  cases d with
  | exn cc ns l =>
    by_cases hc : (tab.any fun p => p.1 == cc && p.2.contains n) = true
    · have e1 : xfF tab n (.exn cc ns l) = (ns.zip l).lookup n := if_pos hc
      rw [e1] at q2
      cases hz : (ns.zip l).lookup n with
      | none =>
        rw [hz] at q2
        exact q2.elim
      | some z =>
        rw [hz] at q2
        obtain ⟨p, hp, hpc⟩ := List.any_eq_true.mp hc
        rw [Bool.and_eq_true] at hpc
        have e2 : p.1 = cc := by simpa using hpc.1
        obtain ⟨h1, h2⟩ := XT p hp
        have h3 := h2 n (by simpa using hpc.2)
        rw [e2] at h1 h3
        obtain ⟨a', d', rfl, hH, _, hf⟩ := rep_exn R1.fh (held_exn hd)
        obtain ⟨dd, fs, u, rfl, hx, hl, ru⟩ := hf n z hz
        exact ⟨a', _, dd, fs, u, rfl, hH, XfC.of (T.i _ h1), h3, hx, hl, q2 _ F1 H1 (Same.refl F1) R1 ru⟩
    · have e1 : xfF tab n (.exn cc ns l) = none := if_neg hc
      rw [e1] at q2
      exact q2.elim
  | _ => exact q2.elim
end
end Mi

set_option Elab.async false
set_option linter.all false
set_option maxRecDepth 100000
set_option maxHeartbeats 4000000
/-! Mi, part M38: a written dict of two whole numbers. -/
namespace Mi
open PySem PySem.Spec PyProof.Rows L2
theorem upd2 {H : Hp} {a : Addr} {u v : HO} : upd (upd H a u) a v = upd H a v := by
  funext b
  by_cases h : b = a
  · rw [h, upd_same, upd_same]
  · rw [upd_ne h, upd_ne h, upd_ne h]
def tDisp2 (w : World) (i1 j1 i2 j2 : Int) : TE := fun _ H Q => ∀ p, H p = none → (p == sysModules) = false → ∀ o, DF w p [(.num i1, .int i1, .int j1), (.num i2, .int i2, .int j2)] o → Q (.ref p) (upd H p (objO p o))
theorem pe_disp2 {X : Cx} {pos p1 p2 p3 p4 : Pos} {i1 j1 i2 j2 : Int} {q1 q2 q3 q4 : Nat} (hu : X.A.units + 64 < cLine) (hne : i1 ≠ i2) : PE X (.Dict [some (.Constant (.int i1) q1 p1), some (.Constant (.int i2) q2 p2)] [.Constant (.int j1) q3 p3, .Constant (.int j2) q4 p4] pos) (tDisp2 X.w i1 j1 i2 j2) := by
  refine ⟨fun pins s σ H Q I q => ?_⟩
  have hn := I.hok.fresh (Nat.le_refl s.heap.objs.size)
  have hsm := big_ne I
  have I1 := laidO I
  have hh := q _ hn hsm
  rw [arm_eval_Dict]
  have hsh : (evalEachOpt [some (.Constant (.int i1) q1 p1), some (.Constant (.int i2) q2 p2)] X.env).zip ((evalEach [.Constant (.int j1) q3 p3, .Constant (.int j2) q4 p4] X.env).map fun v => do let x ← v; standAt pos; pure x) = (pairTrees [some (.Constant (.int i1) q1 p1), some (.Constant (.int i2) q2 p2)] [.Constant (.int j1) q3 p3, .Constant (.int j2) q4 p4] X.env pos).map fun p => (some p.1, p.2) := by rfl
  rw [hsh, dictDisplay_pairs (pairTrees [some (.Constant (.int i1) q1 p1), some (.Constant (.int i2) q2 p2)] [.Constant (.int j1) q3 p3, .Constant (.int j2) q4 p4] X.env pos) (by intro z; cases z) (show 2 < 17 by decide)]
  refine wpAny_bind (wpAny_standAt (wpAny_bind ?_))
  unfold subDict
  refine wpAny_bind (wpAny_alloc ?_)
  refine wpAny_bind (wpAny_holding ?_)
  rw [if_pos (show (pairTrees [some (.Constant (.int i1) q1 p1), some (.Constant (.int i2) q2 p2)] [.Constant (.int j1) q3 p3, .Constant (.int j2) q4 p4] X.env pos).length ≤ 15 from (show 2 ≤ 15 by decide))]
  refine wpAny_bind ?_
  have pps : PPs X pos [some (.Constant (.int i1) q1 p1), some (.Constant (.int i2) q2 p2)] [.Constant (.int j1) q3 p3, .Constant (.int j2) q4 p4] [(tC (.int i1), tC (.int j1)), (tC (.int i2), tC (.int j2))] := pps_cons pe_int pe_int (pps_cons pe_int pe_int pps_nil)
  refine wpAny_mono (wpAny_evalPairs_len (pps.run pins _ σ _ (fun ps H2 => ps = [(.int i1, .int j1), (.int i2, .int j2)] ∧ H2 = upd H s.heap.objs.size (objO s.heap.objs.size emptyD)) I1 ⟨rfl, rfl⟩)) (fun ws s2 hw => ?_) fun _ _ e => e
  obtain ⟨_, ps, H2, I2, rel, rfl, rfl⟩ := hw
  cases rel with
  | @cons a b as bs hab t =>
    cases t with
    | @cons a' b' as' bs' hab' t =>
      cases t
      obtain ⟨b1, b2⟩ := b
      obtain ⟨ry, rz⟩ := hab
      obtain ⟨b3, b4⟩ := b'
      obtain ⟨ry', rz'⟩ := hab'
      refine wpAny_holding ?_
      refine wpAny_bind ?_
      rw [List.forIn_cons]
      have e1 : (D.int i1).hk = some (.num i1) := rfl
      have e2 : (D.int i2).hk = some (.num i2) := rfl
      refine wpAny_bind (wpAny_bind (d_dictSetN (F := fun _ => none) (ra := 0) (es := []) (kvs := []) (dk := .int i1) hu I2 (fun _ _ z => by cases z) ⟨_, upd_same, df_empty hsm⟩ .nil (.int i1) rfl e1 (by decide) ry rz fun s4 o df I4 => wpAny_pure ?_))
      rw [upd2] at I4
      dsimp only
      rw [List.forIn_cons]
      refine wpAny_bind (wpAny_bind (d_dictSetN (F := fun _ => none) (ra := 0) (es := [(.num i1, .int i1, .int j1)]) (kvs := [(.int i1, .int j1)]) (dk := .int i2) hu I4 (fun _ _ z => by cases z) ⟨_, upd_same, df⟩ (.cons e1 (.int i1) (.int j1) .nil) (.int i2) rfl e2 (show 1 < sizeLine by decide) ry' rz' fun s5 o2 df2 I5 => wpAny_pure ?_))
      rw [upd2] at I5
      simp only [List.forIn_nil]
      have e3 : eput [((.num i1 : NestedKey), (.int i1 : V), (.int j1 : V))] (.num i2) (.int i2) (.int j2) = [(.num i1, .int i1, .int j1), (.num i2, .int i2, .int j2)] := by
        unfold eput
        simp [hne]
      rw [e3] at df2
      exact wpAny_pure (wpAny_pure (wpAny_pure (wpAny_pure ⟨.ref s.heap.objs.size, _, I5, rfl, hh o2 df2⟩)))
theorem pmo_disp2 {X : Cx} {W : WX} {pos p1 p2 p3 p4 : Pos} {i1 j1 i2 j2 : Int} {q1 q2 q3 q4 : Nat} (hu : X.A.units + 64 < cLine) (hne : i1 ≠ i2 := by decide) : PMO X W (.Dict [some (.Constant (.int i1) q1 p1), some (.Constant (.int i2) q2 p2)] [.Constant (.int j1) q3 p3, .Constant (.int j2) q4 p4] pos) (pureM (.dct [(.int i1, .int j1), (.int i2, .int j2)])) := by
  refine PE.weaken (pe_disp2 hu hne) ?_
  rintro σ H Q ⟨ra, HK, F, e, R, h⟩
  intro p hp hs o df
  have nra : p ≠ ra := fun z => R.ra_some (z ▸ hp)
  have R2 := R.grow hp (objO p o)
  exact h (.ref p) F (upd H p (objO p o)) (Same.refl F) R2 ⟨p, rfl, ⟨_, ⟨o, upd_same, df⟩, .cons rfl (.int i1) (.int j1) (.cons rfl (.int i2) (.int j2) .nil)⟩, R.fh.free hp, R.kh.free hp, nra, R.notIn_new hp _⟩
end Mi

set_option Elab.async false
set_option linter.all false
set_option maxRecDepth 100000
set_option maxHeartbeats 0
namespace Cut
open PySem Mi
noncomputable section
def errs : List Str := ["CutError", "BadSigns", "BadWindow", "BadLengths", "BadText", "BadNumber", "Unlike", "TooMany", "BadWords", "BadSeen", "BadLine"]
def xtab : List (Str × List Str) := [("BadWords", ["index"]), ("BadSeen", ["index"]), ("BadLine", ["line", "word"])]
def m__law_kinds : M Fl := seqM (asgM 1 (giveM (lstM (consM (op1M (refM 0) (isxF errs fun c => exSub c "BadSigns")) (consM (op1M (refM 0) (isxF errs fun c => exSub c "BadWindow")) (consM (op1M (refM 0) (isxF errs fun c => exSub c "BadLengths")) (consM (op1M (refM 0) (isxF errs fun c => exSub c "BadText")) (pureM []))))))))
      (seqM (asgM 1 (op2M (refM 1) (mapM' (giveM (lstM (consM (op1M (refM 0) (isxF errs fun c => exSub c "BadNumber")) (consM (op1M (refM 0) (isxF errs fun c => exSub c "Unlike")) (consM (op1M (refM 0) (isxF errs fun c => exSub c "TooMany")) (pureM [])))))) Ref.val) addF))
      (retM (op2M (refM 1) (mapM' (giveM (lstM (consM (op1M (refM 0) (isxF errs fun c => exSub c "BadWords")) (consM (op1M (refM 0) (isxF errs fun c => exSub c "BadSeen")) (consM (op1M (refM 0) (isxF errs fun c => exSub c "BadLine")) (pureM [])))))) Ref.val) addF)))
def F__law_kinds : FnM := fnM 1 m__law_kinds
def m__law_pick : M Fl := seqM (iteM (testM (op2M (mapM' (rowM 0 2) Ref.val) (mapM' (pureM (.int 0)) Ref.val) eqF))
      (iteM (testM (op2M (mapM' (rowM 0 1) Ref.val) (mapM' (op1M (mapM' (rowM 0 0) Ref.val) lenF) Ref.val) (ordF .lt)))
      (seqM (asgM 3 (op2M (mapM' (rowM 0 0) Ref.val) (mapM' (rowM 0 1) Ref.val) ixF))
      (seqM (rowSet 0 1 (op2M (mapM' (rowM 0 1) Ref.val) (mapM' (pureM (.int 1)) Ref.val) addF))
      (iteM (testM (op2M (refM 3) (mapM' (op2M (mapM' (pureM (.int 10)) Ref.val) (mapM' (pureM (.int 18)) Ref.val) powF) Ref.val) geF))
      (rowSet 0 2 (readM 3))
      (rowSet 0 3 (op2M (mapM' (op1M (mapM' (op2M (mapM' (op2M (mapM' (op2M (mapM' (rowM 0 3) Ref.val) (mapM' (pureM (.int 48271)) Ref.val) mulF) Ref.val) (mapM' (op2M (refM 3) (mapM' (pureM (.int 69621)) Ref.val) mulF) Ref.val) addF) Ref.val) (mapM' (pureM (.int 11)) Ref.val) addF) Ref.val) toIntF) Ref.val) (mapM' (pureM (.int 2147483647)) Ref.val) modF)))))
      (rowSet 0 3 (op2M (mapM' (op1M (mapM' (op2M (mapM' (op2M (mapM' (rowM 0 3) Ref.val) (mapM' (pureM (.int 48271)) Ref.val) mulF) Ref.val) (mapM' (pureM (.int 7)) Ref.val) addF) Ref.val) toIntF) Ref.val) (mapM' (pureM (.int 2147483647)) Ref.val) modF)))
      (nxM))
      (seqM (iteM (testM (op2M (mapM' (rowM 0 2) Ref.val) (mapM' (pureM (.int 0)) Ref.val) (ordF .gt)))
      (seqM (asgM 2 (op2M (mapM' (op1M (mapM' (rowM 0 2) Ref.val) toIntF) Ref.val) (refM 1) modF))
      (seqM (rowSet 0 2 (op2M (mapM' (rowM 0 2) Ref.val) (refM 1) fdivF))
      (retM (readM 2))))
      (nxM))
      (retM (op2M (mapM' (op2M (mapM' (op1M (mapM' (op2M (mapM' (rowM 0 3) Ref.val) (mapM' (pureM (.int 16807)) Ref.val) mulF) Ref.val) toIntF) Ref.val) (mapM' (pureM (.int 2147483629)) Ref.val) modF) Ref.val) (refM 1) modF)))
def F__law_pick : FnM := fnM 2 m__law_pick
def m_is_from : M Fl := retM (andV (op1M (refM 0) (isiF "int")) (andV (notV (op1M (refM 0) (isiF "bool"))) (chainM (fun i j => decide (i ≤ j)) (fun i j => decide (i ≤ j)) (readM 1) (readM 0) (readM 2))))
def F_is_from : FnM := fnM 0 m_is_from
def m_check_lengths : M Fl := seqM (iteM (notT (testM (callM F_is_from (consM (readM 0) (consM (pureM (.int 1)) (consM (pureM (.int 6)) (pureM [])))))))
      (raiseM "BadLengths")
      (nxM))
      (iteM (andT (testM (op1M (refM 1) notNF)) (notT (testM (callM F_is_from (consM (readM 1) (consM (readM 0) (consM (pureM (.int 8)) (pureM []))))))))
      (raiseM "BadLengths")
      (nxM))
def F_check_lengths : FnM := fnM 0 m_check_lengths
def m_check_shape : M Fl := seqM (iteM (notT (testM (callM F_is_from (consM (readM 0) (consM (pureM (.int 2)) (consM (pureM (.int 3)) (pureM [])))))))
      (raiseM "BadSigns")
      (nxM))
      (iteM (notT (testM (callM F_is_from (consM (readM 1) (consM (pureM (.int 1)) (consM (pureM (.int 3)) (pureM [])))))))
      (raiseM "BadWindow")
      (nxM))
def F_check_shape : FnM := fnM 0 m_check_shape
def c_is_word_1 : M D := callM F_is_from (consM (readM 3) (consM (pureM (.int 0)) (consM (op2M (refM 0) (mapM' (pureM (.int 1)) Ref.val) subF) (pureM []))))
def m_is_word : M Fl := retM (andV (op1M (refM 2) (isiF "tuple")) (andV (op2M (mapM' (op1M (refM 2) lenF) Ref.val) (refM 1) eqF) (op1M (mapM' (giveM (lcM (walkM (readM 2)) (gN 3) (pureM true) (c_is_word_1) [3])) Ref.val) allF)))
def F_is_word : FnM := fnM 1 m_is_word
def b_Rule_1 : M Fl := iteM (orT (notT (testM (callM F_is_word (consM (readM 1) (consM (readM 2) (consM (readM 7) (pureM []))))))) (andT (testM (op2M (refM 6) (mapM' (pureM (.int 0)) Ref.val) (ordF .gt))) (testM (op2M (refM 7) (mapM' (op2M (refM 3) (mapM' (op2M (refM 6) (mapM' (pureM (.int 1)) Ref.val) subF) Ref.val) ixF) Ref.val) (ordF .le)))))
      (raiseXM "BadWords" ["index"] (consM (readM 6) (pureM [])))
      (nxM)
def m_Rule : M Fl := seqM (dropM (callM F_check_shape (consM (readM 1) (consM (readM 2) (pureM [])))))
      (seqM (iteM (notT (testM (op1M (refM 3) (isiF "tuple"))))
      (raiseXM "BadWords" ["index"] (consM (pureM .non) (pureM [])))
      (nxM))
      (seqM (forL (listM (consM (readM 3) (pureM [])) enum1D) (gTupM 2 (gsCons (gN 6) (gsCons (gN 7) (gsNil))))
      (b_Rule_1))
      (seqM (dropM (callM F_check_lengths (consM (readM 4) (consM (readM 5) (pureM [])))))
      (nxM))))
def F_Rule : FnM := initM m_Rule
def m_step_of : M Fl := seqM (asgG (readM 1) (gTupM 2 (gsCons (gN 3) (gsCons (gN 4) (gsNil)))))
      (seqM (asgM 3 (sliceM (mapM' (tupM (starM (refM 3) (consM (readM 2) (pureM [])))) Ref.val) (partM (negM (op1M (refM 0) (fldF 1)))) (pureM none)))
      (seqM (augM 4 (pureM (.int 1)) (intF (fun _ _ => true) (· + ·)))
      (seqM (asgM 5 (orV (andV (op2M (refM 4) (mapM' (op1M (refM 0) (fldF 3)) Ref.val) geF) (op2M (refM 3) (mapM' (op1M (refM 0) (fldF 2)) Ref.val) (inF false))) (op2M (refM 4) (mapM' (op1M (refM 0) (fldF 4)) Ref.val) eqF)))
      (seqM (iteM (testM (readM 5))
      (retM (tupM (consM (tupM (consM (readM 3) (consM (pureM (.int 0)) (pureM [])))) (consM (pureM (.bl true)) (pureM [])))))
      (nxM))
      (retM (tupM (consM (tupM (consM (readM 3) (consM (iteM (testM (op1M (mapM' (op1M (refM 0) (fldF 4)) Ref.val) notNF)) (readM 4) (opLM (consM (readM 4) (consM (op1M (refM 0) (fldF 3)) (pureM []))) min2F)) (pureM [])))) (consM (pureM (.bl false)) (pureM [])))))))))
def F_step_of : FnM := fnM 3 m_step_of
def b_parting_1 : M Fl := seqM (asgG (callM F_step_of (consM (readM 0) (consM (readM 6) (consM (readM 8) (pureM []))))) (gTupM 2 (gsCons (gN 9) (gsCons (gN 10) (gsNil)))))
      (seqM (asgG (callM F_step_of (consM (readM 1) (consM (readM 7) (consM (readM 8) (pureM []))))) (gTupM 2 (gsCons (gN 11) (gsCons (gN 12) (gsNil)))))
      (seqM (iteM (testM (op2M (refM 10) (refM 12) neF))
      (retM (tupM (starM (refM 5) (consM (readM 8) (pureM [])))))
      (nxM))
      (iteM (testM (op2M (mapM' (tupM (consM (readM 9) (consM (readM 11) (pureM [])))) Ref.val) (refM 2) (inF true)))
      (seqM (putM 2 (tupM (consM (readM 9) (consM (readM 11) (pureM [])))) (pureM (.bl true)))
      (appM 4 (tupM (consM (tupM (starM (refM 5) (consM (readM 8) (pureM [])))) (consM (readM 9) (consM (readM 11) (pureM [])))))))
      (nxM))))
def b_parting_2 : M Fl := forL (listM (consM (op1M (refM 0) (fldF 0)) (pureM [])) range1D) (gN 8)
      (b_parting_1)
def t_parting_1 : M Bool := testM (op2M (refM 3) (mapM' (giveM (lstM (pureM []))) Ref.val) neF)
def b_parting_3 : M Fl := seqM (asgO 4 (lstM (pureM [])))
      (seqM (forL (walkM (readM 3)) (gTupM 3 (gsCons (gN 5) (gsCons (gN 6) (gsCons (gN 7) (gsNil)))))
      (b_parting_2))
      (asgM 3 (readM 4)))
def m_parting : M Fl := seqM (iteM (testM (op2M (mapM' (op1M (refM 0) (fldF 0)) Ref.val) (mapM' (op1M (refM 1) (fldF 0)) Ref.val) neF))
      (raiseM "Unlike")
      (nxM))
      (seqM (parM [2, 3] (consO (disp1M (tupM (consM (pureM (.tup [.tup [], .int 0])) (consM (pureM (.tup [.tup [], .int 0])) (pureM [])))) (pureM (.bl true))) (consV (giveM (lstM (consM (tupM (consM (tupM (pureM [])) (consM (pureM (.tup [.tup [], .int 0])) (consM (pureM (.tup [.tup [], .int 0])) (pureM []))))) (pureM [])))) (pureM []))))
      (seqM (whileM (t_parting_1)
      (b_parting_3))
      (retM (pureM .non))))
def F_parting : FnM := fnM 11 m_parting
def m_alike : M Fl := retM (op1M (mapM' (callM F_parting (consM (readM 0) (consM (readM 1) (pureM [])))) Ref.val) isNF)
def F_alike : FnM := fnM 0 m_alike
def c_are_signs_1 : M D := callM F_is_from (consM (readM 2) (consM (pureM (.int 0)) (consM (op2M (mapM' (op1M (refM 0) (fldF 0)) Ref.val) (mapM' (pureM (.int 1)) Ref.val) subF) (pureM []))))
def m_are_signs : M Fl := retM (andV (op1M (refM 1) (isiF "tuple")) (op1M (mapM' (giveM (lcM (walkM (readM 1)) (gN 2) (pureM true) (c_are_signs_1) [2])) Ref.val) allF))
def F_are_signs : FnM := fnM 1 m_are_signs
def m_is_text : M Fl := retM (andV (callM F_are_signs (consM (readM 0) (consM (readM 1) (pureM [])))) (op2M (mapM' (op1M (refM 1) lenF) Ref.val) (mapM' (pureM (.int 400)) Ref.val) (ordF .le)))
def F_is_text : FnM := fnM 0 m_is_text
def m_check_text : M Fl := iteM (notT (testM (callM F_is_text (consM (readM 0) (consM (readM 1) (pureM []))))))
      (raiseM "BadText")
      (nxM)
def F_check_text : FnM := fnM 0 m_check_text
def b_cuts_of_1 : M Fl := seqM (asgG (callM F_step_of (consM (readM 0) (consM (readM 3) (consM (readM 5) (pureM []))))) (gTupM 2 (gsCons (gN 3) (gsCons (gN 6) (gsNil)))))
      (iteM (testM (readM 6))
      (appM 2 (op2M (refM 4) (mapM' (pureM (.int 1)) Ref.val) addF))
      (nxM))
def m_cuts_of : M Fl := seqM (parM [2, 3] (consO (lstM (pureM [])) (consV (pureM (.tup [.tup [], .int 0])) (pureM []))))
      (seqM (forL (listM (consM (readM 1) (pureM [])) enum1D) (gTupM 2 (gsCons (gN 4) (gsCons (gN 5) (gsNil))))
      (b_cuts_of_1))
      (retM (readM 2)))
def F_cuts_of : FnM := fnM 5 m_cuts_of
def m_cuts : M Fl := seqM (dropM (callM F_check_text (consM (readM 0) (consM (readM 1) (pureM [])))))
      (retM (callM F_cuts_of (consM (readM 0) (consM (readM 1) (pureM [])))))
def F_cuts : FnM := fnM 0 m_cuts
def c_all_words_1 : M D := tupM (starM (refM 4) (consM (readM 5) (pureM [])))
def b_all_words_1 : M Fl := asgO 2 (lc2M (walkM (readM 2)) (gN 4) (listM (consM (readM 0) (pureM [])) range1D) (gN 5) (c_all_words_1) [4, 5] [5])
def m_all_words : M Fl := seqM (asgM 2 (giveM (lstM (consM (tupM (pureM [])) (pureM [])))))
      (seqM (forL (listM (consM (readM 1) (pureM [])) range1D) (gN 3)
      (b_all_words_1))
      (retM (readM 2)))
def F_all_words : FnM := fnM 4 m_all_words
def m_check_small : M Fl := iteM (testM (op2M (mapM' (op1M (mapM' (callM F_all_words (consM (readM 0) (consM (readM 1) (pureM [])))) Ref.val) lenF) Ref.val) (mapM' (pureM (.int 9)) Ref.val) (ordF .gt)))
      (raiseM "TooMany")
      (nxM)
def F_check_small : FnM := fnM 0 m_check_small
def b_stands_of_1 : M Fl := seqM (asgM 6 (op2M (mapM' (callM F_step_of (consM (readM 0) (consM (readM 4) (consM (readM 5) (pureM []))))) Ref.val) (mapM' (pureM (.int 0)) Ref.val) ixF))
      (iteM (testM (op2M (refM 6) (refM 1) (inF true)))
      (seqM (putM 1 (readM 6) (tupM (starM (mapM' (op2M (refM 1) (refM 4) ixF) Ref.val) (consM (readM 5) (pureM [])))))
      (appM 3 (readM 6)))
      (nxM))
def b_stands_of_2 : M Fl := forL (listM (consM (op1M (refM 0) (fldF 0)) (pureM [])) range1D) (gN 5)
      (b_stands_of_1)
def t_stands_of_1 : M Bool := testM (op2M (refM 2) (mapM' (giveM (lstM (pureM []))) Ref.val) neF)
def b_stands_of_3 : M Fl := seqM (asgO 3 (lstM (pureM [])))
      (seqM (forL (walkM (readM 2)) (gN 4)
      (b_stands_of_2))
      (asgM 2 (readM 3)))
def m_stands_of : M Fl := seqM (parM [1, 2] (consO (disp1M (pureM (.tup [.tup [], .int 0])) (tupM (pureM []))) (consV (giveM (lstM (consM (pureM (.tup [.tup [], .int 0])) (pureM [])))) (pureM []))))
      (seqM (whileM (t_stands_of_1)
      (b_stands_of_3))
      (retM (readM 1)))
def F_stands_of : FnM := fnM 6 m_stands_of
def k_begins_of_1 : M D := readM 1
def v_begins_of_1 : M D := readM 2
def u_begins_of_1 : M Bool := testM (op2M (mapM' (op2M (refM 1) (mapM' (pureM (.int 1)) Ref.val) ixF) Ref.val) (mapM' (pureM (.int 0)) Ref.val) eqF)
def m_begins_of : M Fl := retM (giveM (dcM (walkD (callM F_stands_of (consM (readM 0) (pureM []))) itmsD) (gTupM 2 (gsCons (gN 1) (gsCons (gN 2) (gsNil)))) (u_begins_of_1) (k_begins_of_1) (v_begins_of_1) [1, 2]))
def F_begins_of : FnM := fnM 2 m_begins_of
def m_is_before : M Fl := retM (op2M (mapM' (tupM (consM (op1M (refM 0) lenF) (consM (readM 0) (pureM [])))) Ref.val) (mapM' (tupM (consM (op1M (refM 1) lenF) (consM (readM 1) (pureM [])))) Ref.val) (ordF .lt))
def F_is_before : FnM := fnM 0 m_is_before
def b_grown_on_1 : M Fl := seqM (asgG (callM F_step_of (consM (readM 0) (consM (readM 4) (consM (readM 6) (pureM []))))) (gTupM 2 (gsCons (gN 8) (gsCons (gN 9) (gsNil)))))
      (seqM (asgM 7 (tupM (starM (refM 5) (consM (readM 6) (pureM [])))))
      (seqM (iteM (andT (testM (readM 9)) (orT (testM (op1M (refM 3) isNF)) (testM (callM F_is_before (consM (readM 7) (consM (readM 3) (pureM [])))))))
      (asgM 3 (readM 7))
      (nxM))
      (iteM (andT (notT (testM (readM 9))) (orT (testM (op2M (refM 8) (refM 2) (inF true))) (testM (callM F_is_before (consM (readM 7) (consM (op2M (refM 2) (refM 8) ixF) (pureM [])))))))
      (putM 2 (readM 8) (readM 7))
      (nxM))))
def b_grown_on_2 : M Fl := forL (listM (consM (op1M (refM 0) (fldF 0)) (pureM [])) range1D) (gN 6)
      (b_grown_on_1)
def m_grown_on : M Fl := seqM (parM [2, 3] (consO (pureM (.dct [])) (consV (pureM .non) (pureM []))))
      (seqM (forL (walkD (readM 1) itmsD) (gTupM 2 (gsCons (gN 4) (gsCons (gN 5) (gsNil))))
      (b_grown_on_2))
      (retM (tupM (consM (readM 2) (consM (readM 3) (pureM []))))))
def F_grown_on : FnM := fnM 8 m_grown_on
def t_longest_of_1 : M Bool := testM (op2M (refM 2) (mapM' (giveM (pureM (.dct []))) Ref.val) (noneF true))
def b_longest_of_1 : M Fl := seqM (asgG (callM F_grown_on (consM (readM 0) (consM (readM 2) (pureM [])))) (gTupM 2 (gsCons (gN 2) (gsCons (gN 5) (gsNil)))))
      (seqM (augM 4 (pureM (.int 1)) (intF (fun _ _ => true) (· + ·)))
      (seqM (iteM (testM (op1M (refM 5) notNF))
      (asgM 3 (tupM (consM (readM 4) (consM (readM 5) (pureM [])))))
      (nxM))
      (iteM (testM (op2M (refM 4) (refM 1) (ordF .gt)))
      (retM (pureM .non))
      (nxM))))
def m_longest_of : M Fl := seqM (parM [2, 3, 4] (consV (callM F_begins_of (consM (readM 0) (pureM []))) (consV (pureM .non) (consV (pureM (.int 0)) (pureM [])))))
      (seqM (asgM 1 (op2M (mapM' (op1M (refM 0) (fldF 3)) Ref.val) (mapM' (op1M (mapM' (callM F_stands_of (consM (readM 0) (pureM []))) Ref.val) lenF) Ref.val) addF))
      (seqM (whileM (t_longest_of_1)
      (b_longest_of_1))
      (retM (readM 3))))
def F_longest_of : FnM := fnM 5 m_longest_of
def m_is_short : M Fl := seqM (asgM 3 (callM F_longest_of (consM (callM F_Rule (consM (op1M (refM 0) (fldF 0)) (consM (op1M (refM 0) (fldF 1)) (consM (op1M (mapM' (giveM (op1O (mapM' (giveM (lstM (starM (mapM' (op1M (refM 0) (fldF 2)) Ref.val) (starM (refM 1) (pureM []))))) Ref.val) sortNF)) Ref.val) tupleF) (consM (op1M (refM 0) (fldF 3)) (consM (op1M (refM 0) (fldF 4)) (pureM []))))))) (pureM []))))
      (retM (andV (op1M (refM 3) notNF) (op2M (mapM' (op2M (refM 3) (mapM' (pureM (.int 0)) Ref.val) ixF) Ref.val) (refM 2) (ordF .le))))
def F_is_short : FnM := fnM 1 m_is_short
def c_sets_of_1 (F_sets_of : FnM) : M D := tupM (consM (readM 4) (starM (refM 5) (pureM [])))
def b_sets_of_1 (F_sets_of : FnM) : M Fl := extM 2 (giveM (lcM (walkM (callM F_sets_of (consM (sliceM (refM 0) (partM (op2M (refM 3) (mapM' (pureM (.int 1)) Ref.val) addF)) (pureM none)) (consM (op2M (refM 1) (mapM' (pureM (.int 1)) Ref.val) subF) (pureM []))))) (gN 5) (pureM true) ((c_sets_of_1 F_sets_of)) [5]))
def m_sets_of (F_sets_of : FnM) : M Fl := seqM (iteM (testM (op2M (refM 1) (mapM' (pureM (.int 0)) Ref.val) eqF))
      (retM (giveM (lstM (consM (tupM (pureM [])) (pureM [])))))
      (nxM))
      (seqM (asgO 2 (lstM (pureM [])))
      (seqM (forL (listM (consM (readM 0) (pureM [])) enum1D) (gTupM 2 (gsCons (gN 3) (gsCons (gN 4) (gsNil))))
      ((b_sets_of_1 F_sets_of)))
      (retM (readM 2))))
def R_sets_of : Nat → FnM
  | 0 => fnM 4 errM
  | n + 1 => fnM 4 (m_sets_of (R_sets_of n))
def F_sets_of : FnM := R_sets_of 4
def c_fewest_words_1 : M D := readM 6
def u_fewest_words_1 : M Bool := testM (op2M (refM 6) (mapM' (op1M (refM 0) (fldF 2)) Ref.val) (inF true))
def c_fewest_words_2 : M D := readM 7
def u_fewest_words_2 : M Bool := testM (callM F_is_short (consM (readM 0) (consM (readM 7) (consM (readM 1) (pureM [])))))
def b_fewest_words_1 : M Fl := seqM (asgO 5 (lcM (walkM (callM F_sets_of (consM (readM 3) (consM (readM 4) (pureM []))))) (gN 7) (u_fewest_words_2) (c_fewest_words_2) [7]))
      (iteM (testM (op2M (refM 5) (mapM' (giveM (lstM (pureM []))) Ref.val) neF))
      (retM (readM 5))
      (nxM))
def m_fewest_words : M Fl := seqM (dropM (callM F_check_small (consM (op1M (refM 0) (fldF 0)) (consM (op1M (refM 0) (fldF 1)) (pureM [])))))
      (seqM (iteM (orT (notT (testM (callM F_is_from (consM (readM 1) (consM (pureM (.int 1)) (consM (pureM (.int 12)) (pureM []))))))) (notT (testM (callM F_is_from (consM (readM 2) (consM (pureM (.int 0)) (consM (pureM (.int 3)) (pureM []))))))))
      (raiseM "BadNumber")
      (nxM))
      (seqM (asgO 3 (lcM (walkM (callM F_all_words (consM (op1M (refM 0) (fldF 0)) (consM (op1M (refM 0) (fldF 1)) (pureM []))))) (gN 6) (u_fewest_words_1) (c_fewest_words_1) [6]))
      (seqM (forL (listM (consM (op2M (refM 2) (mapM' (pureM (.int 1)) Ref.val) addF) (pureM [])) range1D) (gN 4)
      (b_fewest_words_1))
      (retM (giveM (lstM (pureM [])))))))
def F_fewest_words : FnM := fnM 5 m_fewest_words
def m_check_places : M Fl := iteM (notT (testM (callM F_is_from (consM (readM 0) (consM (pureM (.int 0)) (consM (pureM (.int 30)) (pureM [])))))))
      (raiseM "BadNumber")
      (nxM)
def F_check_places : FnM := fnM 0 m_check_places
def b_counts_of_1 : M Fl := seqM (asgG (callM F_step_of (consM (readM 0) (consM (readM 7) (consM (readM 9) (pureM []))))) (gTupM 2 (gsCons (gN 10) (gsCons (gN 11) (gsNil)))))
      (iteM (testM (readM 11))
      (augM 6 (readM 8) (intF (fun _ _ => true) (· + ·)))
      (putM 5 (readM 10) (op2M (mapM' (getM (refM 5) (readM 10) (pureM (.int 0))) Ref.val) (refM 8) addF)))
def b_counts_of_2 : M Fl := forL (listM (consM (op1M (refM 0) (fldF 0)) (pureM [])) range1D) (gN 9)
      (b_counts_of_1)
def b_counts_of_3 : M Fl := seqM (parM [5, 6] (consO (pureM (.dct [])) (consV (pureM (.int 0)) (pureM []))))
      (seqM (forL (walkD (readM 3) itmsD) (gTupM 2 (gsCons (gN 7) (gsCons (gN 8) (gsNil))))
      (b_counts_of_2))
      (seqM (appM 4 (readM 6))
      (asgM 3 (readM 5))))
def m_counts_of : M Fl := seqM (parM [3, 4] (consV (giveM (disp1M (pureM (.tup [.tup [], .int 0])) (pureM (.int 1)))) (consO (lstM (consM (pureM (.int 0)) (pureM []))) (pureM []))))
      (seqM (forL (listM (consM (readM 1) (pureM [])) range1D) (gN 2)
      (b_counts_of_3))
      (retM (readM 4)))
def F_counts_of : FnM := fnM 10 m_counts_of
def m_first_cuts : M Fl := seqM (dropM (callM F_check_places (consM (readM 1) (pureM []))))
      (retM (callM F_counts_of (consM (readM 0) (consM (readM 1) (pureM [])))))
def F_first_cuts : FnM := fnM 0 m_first_cuts
def c_is_seen_1 : M D := callM F_is_from (consM (readM 2) (consM (pureM (.int 1)) (consM (op1M (mapM' (op2M (refM 1) (mapM' (pureM (.int 0)) Ref.val) ixF) Ref.val) lenF) (pureM []))))
def m_is_seen : M Fl := seqM (iteM (orT (notT (testM (op1M (refM 1) (isiF "tuple")))) (orT (testM (op2M (mapM' (op1M (refM 1) lenF) Ref.val) (mapM' (pureM (.int 2)) Ref.val) neF)) (notT (testM (callM F_is_text (consM (readM 0) (consM (op2M (refM 1) (mapM' (pureM (.int 0)) Ref.val) ixF) (pureM []))))))))
      (retM (pureM (.bl false)))
      (nxM))
      (seqM (iteM (notT (testM (op1M (mapM' (op2M (refM 1) (mapM' (pureM (.int 1)) Ref.val) ixF) Ref.val) (isiF "tuple"))))
      (retM (pureM (.bl false)))
      (nxM))
      (seqM (iteM (notT (testM (op1M (mapM' (giveM (lcM (walkM (op2M (refM 1) (mapM' (pureM (.int 1)) Ref.val) ixF)) (gN 2) (pureM true) (c_is_seen_1) [2])) Ref.val) allF)))
      (retM (pureM (.bl false)))
      (nxM))
      (retM (op2M (mapM' (giveM (op1O (mapM' (op2M (refM 1) (mapM' (pureM (.int 1)) Ref.val) ixF) Ref.val) listDO)) Ref.val) (mapM' (giveM (op1O (mapM' (op2M (refM 1) (mapM' (pureM (.int 1)) Ref.val) ixF) Ref.val) sortSF)) Ref.val) eqF))))
def F_is_seen : FnM := fnM 1 m_is_seen
def b_check_seen_1 : M Fl := iteM (notT (testM (callM F_is_seen (consM (readM 0) (consM (readM 3) (pureM []))))))
      (raiseXM "BadSeen" ["index"] (consM (readM 2) (pureM [])))
      (nxM)
def m_check_seen : M Fl := seqM (iteM (orT (notT (testM (op1M (refM 1) (isi2F "list" "tuple")))) (testM (op2M (mapM' (op1M (refM 1) lenF) Ref.val) (mapM' (pureM (.int 12)) Ref.val) (ordF .gt))))
      (raiseXM "BadSeen" ["index"] (consM (pureM .non) (pureM [])))
      (nxM))
      (forL (listM (consM (readM 1) (pureM [])) enum1D) (gTupM 2 (gsCons (gN 2) (gsCons (gN 3) (gsNil))))
      (b_check_seen_1))
def F_check_seen : FnM := fnM 2 m_check_seen
def c_does_fit_1 : M D := op2M (mapM' (op1M (mapM' (callM F_cuts_of (consM (readM 0) (consM (readM 2) (pureM [])))) Ref.val) tupleF) Ref.val) (refM 3) eqF
def m_does_fit : M Fl := retM (op1M (mapM' (giveM (lcM (walkM (readM 1)) (gTupM 2 (gsCons (gN 2) (gsCons (gN 3) (gsNil)))) (pureM true) (c_does_fit_1) [2, 3])) Ref.val) allF)
def F_does_fit : FnM := fnM 2 m_does_fit
def c_subsets_of_1 : M D := tupM (starM (refM 3) (consM (readM 2) (pureM [])))
def b_subsets_of_1 : M Fl := asgM 1 (op2M (refM 1) (mapM' (giveM (lcM (walkM (readM 1)) (gN 3) (pureM true) (c_subsets_of_1) [3])) Ref.val) addF)
def m_subsets_of : M Fl := seqM (asgM 1 (giveM (lstM (consM (tupM (pureM [])) (pureM [])))))
      (seqM (forL (walkM (readM 0)) (gN 2)
      (b_subsets_of_1))
      (retM (readM 1)))
def F_subsets_of : FnM := fnM 3 m_subsets_of
def c_fitting_1 : M D := readM 8
def u_fitting_1 : M Bool := testM (callM F_does_fit (consM (callM F_Rule (consM (readM 0) (consM (readM 1) (consM (readM 8) (consM (readM 2) (consM (readM 3) (pureM []))))))) (consM (readM 4) (pureM []))))
def c_fitting_2 : M D := op2M (refM 9) (refM 8) (inF false)
def c_fitting_3 : M D := readM 9
def u_fitting_2 : M Bool := testM (op1M (mapM' (giveM (lcM (walkM (readM 6)) (gN 8) (pureM true) (c_fitting_2) [8])) Ref.val) allF)
def c_fitting_4 : M D := op2M (refM 9) (refM 8) (inF false)
def c_fitting_5 : M D := readM 9
def u_fitting_3 : M Bool := testM (op1M (mapM' (giveM (lcM (walkM (readM 6)) (gN 8) (pureM true) (c_fitting_4) [8])) Ref.val) anyF)
def m_fitting : M Fl := seqM (dropM (callM F_check_shape (consM (readM 0) (consM (readM 1) (pureM [])))))
      (seqM (dropM (callM F_check_lengths (consM (readM 2) (consM (readM 3) (pureM [])))))
      (seqM (dropM (callM F_check_small (consM (readM 0) (consM (readM 1) (pureM [])))))
      (seqM (dropM (callM F_check_seen (consM (callM F_Rule (consM (readM 0) (consM (readM 1) (consM (tupM (pureM [])) (consM (readM 2) (consM (readM 3) (pureM []))))))) (consM (readM 4) (pureM [])))))
      (seqM (asgM 5 (callM F_all_words (consM (readM 0) (consM (readM 1) (pureM [])))))
      (seqM (asgM 6 (giveM (lcM (walkM (callM F_subsets_of (consM (readM 5) (pureM [])))) (gN 8) (u_fitting_1) (c_fitting_1) [8])))
      (seqM (asgM 7 (iteM (testM (op2M (refM 6) (mapM' (giveM (lstM (pureM []))) Ref.val) neF)) (giveM (lcM (walkM (readM 5)) (gN 9) (u_fitting_2) (c_fitting_3) [9])) (giveM (lstM (pureM [])))))
      (retM (tupM (consM (op1M (refM 6) lenF) (consM (readM 7) (consM (giveM (lcM (walkM (readM 5)) (gN 9) (u_fitting_3) (c_fitting_5) [9])) (pureM []))))))))))))
def F_fitting : FnM := fnM 5 m_fitting
def c_number_in_1 : M D := op1M (refM 5) strF
def m_number_in : M Fl := seqM (iteM (orT (testM (op2M (refM 1) (mapM' (op1M (refM 0) lenF) Ref.val) geF)) (testM (op2M (mapM' (op2M (refM 0) (refM 1) ixF) Ref.val) (mapM' (giveM (lcM (listM (consM (readM 3) (consM (op2M (refM 4) (mapM' (pureM (.int 1)) Ref.val) addF) (pureM []))) range2D) (gN 5) (pureM true) (c_number_in_1) [5])) Ref.val) (inF true))))
      (raiseXM "BadLine" ["line", "word"] (consM (readM 2) (consM (op2M (refM 1) (mapM' (pureM (.int 1)) Ref.val) addF) (pureM []))))
      (nxM))
      (retM (op1M (mapM' (op2M (refM 0) (refM 1) ixF) Ref.val) intTF))
def F_number_in : FnM := fnM 1 m_number_in
def m_head_in : M Fl := seqM (iteM (testM (op2M (mapM' (sliceM (refM 0) (pureM none) (partM (pureM (.int 1)))) Ref.val) (mapM' (giveM (lstM (consM (pureM (.str "rule")) (pureM [])))) Ref.val) neF))
      (raiseXM "BadLine" ["line", "word"] (consM (pureM (.int 1)) (consM (pureM (.int 1)) (pureM []))))
      (nxM))
      (seqM (parM [3, 4] (consV (callM F_number_in (consM (readM 0) (consM (pureM (.int 1)) (consM (pureM (.int 1)) (consM (pureM (.int 2)) (consM (pureM (.int 3)) (pureM []))))))) (consV (callM F_number_in (consM (readM 0) (consM (pureM (.int 2)) (consM (pureM (.int 1)) (consM (pureM (.int 1)) (consM (pureM (.int 3)) (pureM []))))))) (pureM []))))
      (seqM (asgM 1 (callM F_number_in (consM (readM 0) (consM (pureM (.int 3)) (consM (pureM (.int 1)) (consM (pureM (.int 1)) (consM (pureM (.int 6)) (pureM []))))))))
      (seqM (asgM 2 (iteM (testM (op2M (mapM' (sliceM (refM 0) (partM (pureM (.int 4))) (partM (pureM (.int 5)))) Ref.val) (mapM' (giveM (lstM (consM (pureM (.str "none")) (pureM [])))) Ref.val) eqF)) (pureM .non) (callM F_number_in (consM (readM 0) (consM (pureM (.int 4)) (consM (pureM (.int 1)) (consM (readM 1) (consM (pureM (.int 8)) (pureM [])))))))))
      (seqM (iteM (testM (op2M (mapM' (op1M (refM 0) lenF) Ref.val) (mapM' (pureM (.int 5)) Ref.val) (ordF .gt)))
      (raiseXM "BadLine" ["line", "word"] (consM (pureM (.int 1)) (consM (pureM (.int 6)) (pureM []))))
      (nxM))
      (retM (tupM (consM (readM 3) (consM (readM 4) (consM (readM 1) (consM (readM 2) (pureM [])))))))))))
def F_head_in : FnM := fnM 4 m_head_in
def c_word_in_1 : M D := callM F_number_in (consM (readM 0) (consM (readM 5) (consM (readM 1) (consM (pureM (.int 0)) (consM (op2M (refM 2) (mapM' (pureM (.int 1)) Ref.val) subF) (pureM []))))))
def m_word_in : M Fl := seqM (iteM (testM (op2M (mapM' (sliceM (refM 0) (pureM none) (partM (pureM (.int 1)))) Ref.val) (mapM' (giveM (lstM (consM (pureM (.str "word")) (pureM [])))) Ref.val) neF))
      (raiseXM "BadLine" ["line", "word"] (consM (readM 1) (consM (pureM (.int 1)) (pureM []))))
      (nxM))
      (seqM (asgM 4 (op1M (mapM' (giveM (lcM (listM (consM (pureM (.int 1)) (consM (op2M (refM 3) (mapM' (pureM (.int 1)) Ref.val) addF) (pureM []))) range2D) (gN 5) (pureM true) (c_word_in_1) [5])) Ref.val) tupleF))
      (seqM (iteM (testM (op2M (mapM' (op1M (refM 0) lenF) Ref.val) (mapM' (op2M (refM 3) (mapM' (pureM (.int 1)) Ref.val) addF) Ref.val) (ordF .gt)))
      (raiseXM "BadLine" ["line", "word"] (consM (readM 1) (consM (op2M (refM 3) (mapM' (pureM (.int 2)) Ref.val) addF) (pureM []))))
      (nxM))
      (retM (readM 4))))
def F_word_in : FnM := fnM 2 m_word_in
def c_read_1 : M D := readM 9
def u_read_1 : M Bool := testM (op2M (refM 9) (mapM' (pureM (.str "")) Ref.val) neF)
def c_read_2 : M D := giveM (lcM (walkM (giveM (splitM (readM 10) (mapM' (pureM (.str " ")) Ref.val)))) (gN 9) (u_read_1) (c_read_1) [9])
def b_read_1 : M Fl := seqM (asgM 9 (callM F_word_in (consM (readM 8) (consM (op2M (refM 7) (mapM' (pureM (.int 2)) Ref.val) addF) (consM (readM 3) (consM (readM 4) (pureM [])))))))
      (seqM (iteM (andT (testM (op2M (refM 2) (mapM' (giveM (lstM (pureM []))) Ref.val) neF)) (testM (op2M (refM 9) (mapM' (op2M (refM 2) (mapM' (negM (pureM (.int 1))) Ref.val) ixF) Ref.val) (ordF .le))))
      (raiseXM "BadLine" ["line", "word"] (consM (op2M (refM 7) (mapM' (pureM (.int 2)) Ref.val) addF) (consM (pureM (.int 0)) (pureM []))))
      (nxM))
      (appM 2 (readM 9)))
def m_read : M Fl := seqM (asgO 1 (lcM (walkM (giveM (splitM (readM 0) (mapM' (pureM (.str "\n")) Ref.val)))) (gN 10) (pureM true) (c_read_2) [10]))
      (seqM (asgG (callM F_head_in (consM (op2M (refM 1) (mapM' (pureM (.int 0)) Ref.val) ixF) (pureM []))) (gTupM 4 (gsCons (gN 3) (gsCons (gN 4) (gsCons (gN 5) (gsCons (gN 6) (gsNil)))))))
      (seqM (asgO 2 (lstM (pureM [])))
      (seqM (forL (listM (consM (sliceM (refM 1) (partM (pureM (.int 1))) (pureM none)) (pureM [])) enum1D) (gTupM 2 (gsCons (gN 7) (gsCons (gN 8) (gsNil))))
      (b_read_1))
      (retM (callM F_Rule (consM (readM 3) (consM (readM 4) (consM (op1M (refM 2) tupleF) (consM (readM 5) (consM (readM 6) (pureM [])))))))))))
def F_read : FnM := fnM 10 m_read
def m__law_raised : M Fl := seqM (parM [2, 3] (consV (callM F_Rule (consM (pureM (.int 2)) (consM (pureM (.int 1)) (consM (tupM (consM (tupM (consM (pureM (.int 1)) (pureM []))) (pureM []))) (consM (pureM (.int 1)) (consM (pureM .non) (pureM []))))))) (consV (pureM .non) (pureM []))))
      (seqM (tryK errs (iteM (testM (op2M (refM 0) (mapM' (pureM (.int 0)) Ref.val) eqF))
      (dropM (callM F_Rule (consM (pureM (.int 4)) (consM (pureM (.int 1)) (consM (tupM (pureM [])) (consM (pureM (.int 1)) (consM (pureM .non) (pureM []))))))))
      (iteM (testM (op2M (refM 0) (mapM' (pureM (.int 1)) Ref.val) eqF))
      (dropM (callM F_Rule (consM (pureM (.int 2)) (consM (pureM (.int 4)) (consM (tupM (pureM [])) (consM (pureM (.int 1)) (consM (pureM .non) (pureM []))))))))
      (iteM (testM (op2M (refM 0) (mapM' (pureM (.int 2)) Ref.val) eqF))
      (dropM (callM F_Rule (consM (pureM (.int 2)) (consM (pureM (.int 1)) (consM (tupM (pureM [])) (consM (pureM (.int 3)) (consM (pureM (.int 2)) (pureM []))))))))
      (iteM (testM (op2M (refM 0) (mapM' (pureM (.int 3)) Ref.val) eqF))
      (dropM (callM F_cuts (consM (readM 2) (consM (tupM (consM (pureM (.int 2)) (pureM []))) (pureM [])))))
      (iteM (testM (op2M (refM 0) (mapM' (pureM (.int 4)) Ref.val) eqF))
      (dropM (callM F_first_cuts (consM (readM 2) (consM (pureM (.int 31)) (pureM [])))))
      (iteM (testM (op2M (refM 0) (mapM' (pureM (.int 5)) Ref.val) eqF))
      (dropM (callM F_alike (consM (readM 2) (consM (callM F_Rule (consM (pureM (.int 3)) (consM (pureM (.int 1)) (consM (tupM (pureM [])) (consM (pureM (.int 1)) (consM (pureM .non) (pureM []))))))) (pureM [])))))
      (iteM (testM (op2M (refM 0) (mapM' (pureM (.int 6)) Ref.val) eqF))
      (dropM (callM F_fewest_words (consM (callM F_Rule (consM (pureM (.int 3)) (consM (pureM (.int 3)) (consM (tupM (pureM [])) (consM (pureM (.int 1)) (consM (pureM .non) (pureM []))))))) (consM (pureM (.int 3)) (consM (pureM (.int 1)) (pureM []))))))
      (iteM (testM (op2M (refM 0) (mapM' (pureM (.int 7)) Ref.val) eqF))
      (dropM (callM F_Rule (consM (pureM (.int 2)) (consM (pureM (.int 1)) (consM (tupM (consM (tupM (consM (pureM (.int 0)) (pureM []))) (consM (tupM (consM (pureM (.int 1)) (pureM []))) (consM (tupM (consM (pureM (.int 1)) (pureM []))) (pureM []))))) (consM (pureM (.int 1)) (consM (pureM .non) (pureM []))))))))
      (iteM (testM (op2M (refM 0) (mapM' (pureM (.int 8)) Ref.val) eqF))
      (dropM (callM F_fitting (consM (pureM (.int 2)) (consM (pureM (.int 1)) (consM (pureM (.int 1)) (consM (pureM .non) (consM (giveM (lstM (consM (tupM (consM (tupM (consM (pureM (.int 0)) (pureM []))) (consM (tupM (pureM [])) (pureM [])))) (consM (tupM (consM (tupM (consM (pureM (.int 0)) (pureM []))) (consM (tupM (consM (pureM (.int 2)) (pureM []))) (pureM [])))) (pureM []))))) (pureM []))))))))
      (dropM (callM F_read (consM (pureM (.str "rule 2 1 1 none 5")) (pureM []))))))))))))) 1 3)
      (retM (readM 3)))
def F__law_raised : FnM := fnM 3 m__law_raised
def c_law_1 : M D := op2M (refM 2) (refM 4) eqF
def m_law : M Fl := seqM (asgM 2 (callM F__law_pick (consM (readM 1) (consM (pureM (.int 10)) (pureM [])))))
      (seqM (asgM 3 (callM F__law_raised (consM (readM 2) (pureM []))))
      (seqM (iteM (orT (notT (testM (op1M (refM 3) (isxF errs fun _ => true)))) (testM (op2M (mapM' (callM F__law_kinds (consM (readM 3) (pureM []))) Ref.val) (mapM' (giveM (lcM (listM (consM (pureM (.int 10)) (pureM [])) range1D) (gN 4) (pureM true) (c_law_1) [4])) Ref.val) neF)))
      (retM (pureM (.bl false)))
      (nxM))
      (seqM (iteM (andT (testM (op2M (refM 2) (mapM' (giveM (lstM (consM (pureM (.int 7)) (consM (pureM (.int 8)) (pureM []))))) Ref.val) (inF false))) (testM (op2M (mapM' (op1M (refM 3) (xfF xtab "index")) Ref.val) (mapM' (op2M (mapM' (giveM (pureM (.dct [(.int 7, .int 2), (.int 8, .int 1)]))) Ref.val) (refM 2) ixF) Ref.val) neF)))
      (retM (pureM (.bl false)))
      (nxM))
      (retM (orV (op2M (refM 2) (mapM' (pureM (.int 9)) Ref.val) neF) (op2M (mapM' (tupM (consM (op1M (refM 3) (xfF xtab "line")) (consM (op1M (refM 3) (xfF xtab "word")) (pureM [])))) Ref.val) (mapM' (tupM (consM (pureM (.int 1)) (consM (pureM (.int 6)) (pureM [])))) Ref.val) eqF))))))
end
end Cut

set_option Elab.async false
set_option linter.all false
set_option maxRecDepth 100000
set_option maxHeartbeats 0
namespace Cut
open PySem PySem.Spec PyProof.Rows L2 Mi
def top (i : Nat) : Stmt := PySem.Challenge.pw_cutsagain_k19_errors_apart.main.body.getD i (.Pass ⟨0, 0, 0, 0⟩)
/-- what is asked of the snapshot -/
structure Facts (K : PySem.W.Frag) (mg : Str → Option Value) : Prop where
  b_ValueError : mg "ValueError" = none
  b_all : mg "all" = none
  b_any : mg "any" = none
  b_bool : mg "bool" = none
  b_enumerate : mg "enumerate" = none
  b_int : mg "int" = none
  b_isinstance : mg "isinstance" = none
  b_len : mg "len" = none
  b_list : mg "list" = none
  b_min : mg "min" = none
  b_range : mg "range" = none
  b_set : mg "set" = none
  b_sorted : mg "sorted" = none
  b_str : mg "str" = none
  b_tuple : mg "tuple" = none
  c_MOST_GOAL : ∃ t, mg "MOST_GOAL" = some (.int 12 t)
  c_MOST_LEAST : ∃ t, mg "MOST_LEAST" = some (.int 6 t)
  c_MOST_LENGTH : ∃ t, mg "MOST_LENGTH" = some (.int 8 t)
  c_MOST_MORE : ∃ t, mg "MOST_MORE" = some (.int 3 t)
  c_MOST_PLACES : ∃ t, mg "MOST_PLACES" = some (.int 30 t)
  c_MOST_SEEN : ∃ t, mg "MOST_SEEN" = some (.int 12 t)
  c_MOST_SIGNS : ∃ t, mg "MOST_SIGNS" = some (.int 3 t)
  c_MOST_TEXT : ∃ t, mg "MOST_TEXT" = some (.int 400 t)
  c_MOST_WINDOW : ∃ t, mg "MOST_WINDOW" = some (.int 3 t)
  c_MOST_WORDS : ∃ t, mg "MOST_WORDS" = some (.int 9 t)
  c_NONE : ∃ t, mg "NONE" = some (.str "none" t)
  c_RULE : ∃ t, mg "RULE" = some (.str "rule" t)
  c_WORD : ∃ t, mg "WORD" = some (.str "word" t)
  cl : Cls K (He.ga K "Rule")
  e_BadLengths : ExcF K mg "BadLengths"
  e_BadNumber : ExcF K mg "BadNumber"
  e_BadSigns : ExcF K mg "BadSigns"
  e_BadText : ExcF K mg "BadText"
  e_BadWindow : ExcF K mg "BadWindow"
  e_TooMany : ExcF K mg "TooMany"
  e_Unlike : ExcF K mg "Unlike"
  et : ExTab K mg errs
  g_BEGIN : mg "BEGIN" = some (.ref (He.ga K "BEGIN"))
  g_Rule : mg "Rule" = some (.ref (He.ga K "Rule"))
  it : ErrIs K errs
  ki_bool : PySem.W.kitOne K (.ref (He.ga K "Rule")) (.type "bool") = some false
  ki_int : PySem.W.kitOne K (.ref (He.ga K "Rule")) (.type "int") = some false
  ki_tuple : PySem.W.kitOne K (.ref (He.ga K "Rule")) (.type "tuple") = some false
  na_high : NoAttr K (He.ga K "Rule") "high"
  na_low : NoAttr K (He.ga K "Rule") "low"
  na_many : NoAttr K (He.ga K "Rule") "many"
  na_rows : NoAttr K (He.ga K "Rule") "rows"
  na_wide : NoAttr K (He.ga K "Rule") "wide"
  r_BEGIN : ∀ w ra F, Rep w K ra F (.ref (He.ga K "BEGIN")) (.tup [.tup [], .int 0])
  ri : RuleIs K
  x_BadLine : ExcI K mg "BadLine" ["line", "word"]
  x_BadSeen : ExcI K mg "BadSeen" ["index"]
  x_BadWords : ExcI K mg "BadWords" ["index"]
  xt : ∀ p ∈ xtab, p.1 ∈ errs ∧ ∀ f ∈ p.2, PySem.W.findIn K (.ref (He.ga K p.1)) f = some none
theorem u65 {k : Nat} {A : Around} (r : Room k A) : A.units + 65 < cLine := by
  have := r.un
  omega
theorem initM_ret {b : M Fl} {ds : List D} {row row' : RowS} {d : D} (h : initM b ds row = .ret d row') : ∃ l, d = .obj l := by
  unfold initM at h
  split at h
  · split at h
    · cases h
      exact ⟨_, rfl⟩
    · cases h
  · cases h
  · cases h
  · cases h
/-! _law_kinds -/
theorem sc__law_kinds : FnScope ["_law_e", "_law_found"] ["_law_e"] (defScope (top 72)) := ⟨rfl, rfl, rfl, by decide +kernel, rfl, by decide +kernel, by decide +kernel⟩
theorem w__law_kinds {P : Program} {w : World} {K : PySem.W.Frag} {mg : Str → Option Value} {base : Heap} (FS : Facts K mg) {fa : Addr} {cdv : Value} {A : Around} {outer : List PySem.Env} {s : Shared} {H : Hp} {E : XK} (hr : Room 0 (A.deeper (envOfC "_law_kinds" (defScope (top 72)) s.heap.objs.size fa cdv))) (tk : Takes (cxOf (L2.CX P w) P w K mg base ["_law_e", "_law_found"] "_law_kinds" (defScope (top 72)) fa cdv A outer s H E) (fun cls d _ H' => E cls d H')) : PSsM (cxOf (L2.CX P w) P w K mg base ["_law_e", "_law_found"] "_law_kinds" (defScope (top 72)) fa cdv A outer s H E) (fun cls d _ H' => E cls d H') (defBody (top 72)) m__law_kinds := by
  have sc := sc__law_kinds
  exact pssm_cons (psm_set 1 (pm_give (pmo_lst (pma_cons (pm_isx FS.et FS.it (by decide) FS.b_isinstance (pm_ref 0)) (pma_cons (pm_isx FS.et FS.it (by decide) FS.b_isinstance (pm_ref 0)) (pma_cons (pm_isx FS.et FS.it (by decide) FS.b_isinstance (pm_ref 0)) (pma_cons (pm_isx FS.et FS.it (by decide) FS.b_isinstance (pm_ref 0)) (pma_nil))))))) sc.nd)
      (pssm_cons (psm_set 1 (pm_add (pm_ref 1) (pm_toRef (pm_give (pmo_lst (pma_cons (pm_isx FS.et FS.it (by decide) FS.b_isinstance (pm_ref 0)) (pma_cons (pm_isx FS.et FS.it (by decide) FS.b_isinstance (pm_ref 0)) (pma_cons (pm_isx FS.et FS.it (by decide) FS.b_isinstance (pm_ref 0)) (pma_nil)))))))) sc.nd)
      (pssm_one (psm_ret (pm_add (pm_ref 1) (pm_toRef (pm_give (pmo_lst (pma_cons (pm_isx FS.et FS.it (by decide) FS.b_isinstance (pm_ref 0)) (pma_cons (pm_isx FS.et FS.it (by decide) FS.b_isinstance (pm_ref 0)) (pma_cons (pm_isx FS.et FS.it (by decide) FS.b_isinstance (pm_ref 0)) (pma_nil)))))))))))
theorem f__law_kinds {P : Program} {w : World} {K : PySem.W.Frag} {mg : Str → Option Value} {base : Heap} {fa : Addr} {fd : FuncData} (FS : Facts K mg) (FD : FunD K "_law_kinds" "_law_kinds" (defArgs (top 72)) (defBody (top 72)) (defScope (top 72)) [] [] fa fd) (hm : mg "_law_kinds" = some (.ref fa)) (hb : Binds K fd ["_law_e"] []) : Fn P w K mg base "_law_kinds" 1 1 F__law_kinds := fn_ok FD sc__law_kinds hm hb rfl rfl fun cdv A outer s H E hr tk => w__law_kinds FS hr tk
/-! _law_pick -/
theorem sc__law_pick : FnScope ["_law_row", "_law_many", "_law_found", "_law_cell"] ["_law_row", "_law_many"] (defScope (top 70)) := ⟨rfl, rfl, rfl, by decide +kernel, rfl, by decide +kernel, by decide +kernel⟩
theorem w__law_pick {P : Program} {w : World} {K : PySem.W.Frag} {mg : Str → Option Value} {base : Heap} (FS : Facts K mg) {fa : Addr} {cdv : Value} {A : Around} {outer : List PySem.Env} {s : Shared} {H : Hp} {E : XK} (hr : Room 0 (A.deeper (envOfC "_law_pick" (defScope (top 70)) s.heap.objs.size fa cdv))) (tk : Takes (cxOf (L2.CX P w) P w K mg base ["_law_row", "_law_many", "_law_found", "_law_cell"] "_law_pick" (defScope (top 70)) fa cdv A outer s H E) (fun cls d _ H' => E cls d H')) : PSsM (cxOf (L2.CX P w) P w K mg base ["_law_row", "_law_many", "_law_found", "_law_cell"] "_law_pick" (defScope (top 70)) fa cdv A outer s H E) (fun cls d _ H' => E cls d H') (defBody (top 70)) m__law_pick := by
  have sc := sc__law_pick
  exact pssm_cons (psm_if (pmt_eq hr.units (pm_toRef (pm_row 0 2)) (pm_toRef (pm_int)))
      (pssm_one (psm_if (pmt_lt hr.units (pm_toRef (pm_row 0 1)) (pm_toRef (pm_len FS.b_len (pm_toRef (pm_row 0 0)))))
      (pssm_cons (psm_set 3 (pm_ix hr.units (pm_toRef (pm_row 0 0)) (pm_toRef (pm_row 0 1))) sc.nd)
      (pssm_cons (psm_row 0 1 (pm_add (pm_toRef (pm_row 0 1)) (pm_toRef (pm_int))))
      (pssm_one (psm_if (pmt_ge (pm_ref 3) (pm_toRef (pm_pow (pm_toRef (pm_int)) (pm_toRef (pm_int)))))
      (pssm_one (psm_row 0 2 (pm_var 3)))
      (pssm_one (psm_row 0 3 (pm_mod (pm_toRef (pm_toInt FS.b_int (pm_toRef (pm_add (pm_toRef (pm_add (pm_toRef (pm_mul (pm_toRef (pm_row 0 3)) (pm_toRef (pm_int)))) (pm_toRef (pm_mul (pm_ref 3) (pm_toRef (pm_int)))))) (pm_toRef (pm_int)))))) (pm_toRef (pm_int)))))))))
      (pssm_one (psm_row 0 3 (pm_mod (pm_toRef (pm_toInt FS.b_int (pm_toRef (pm_add (pm_toRef (pm_mul (pm_toRef (pm_row 0 3)) (pm_toRef (pm_int)))) (pm_toRef (pm_int)))))) (pm_toRef (pm_int)))))))
      (pssm_nil))
      (pssm_cons (psm_if (pmt_gt hr.units (pm_toRef (pm_row 0 2)) (pm_toRef (pm_int)))
      (pssm_cons (psm_set 2 (pm_mod (pm_toRef (pm_toInt FS.b_int (pm_toRef (pm_row 0 2)))) (pm_ref 1)) sc.nd)
      (pssm_cons (psm_row 0 2 (pm_fdiv (pm_toRef (pm_row 0 2)) (pm_ref 1)))
      (pssm_one (psm_ret (pm_var 2)))))
      (pssm_nil))
      (pssm_one (psm_ret (pm_mod (pm_toRef (pm_mod (pm_toRef (pm_toInt FS.b_int (pm_toRef (pm_mul (pm_toRef (pm_row 0 3)) (pm_toRef (pm_int)))))) (pm_toRef (pm_int)))) (pm_ref 1)))))
theorem f__law_pick {P : Program} {w : World} {K : PySem.W.Frag} {mg : Str → Option Value} {base : Heap} {fa : Addr} {fd : FuncData} (FS : Facts K mg) (FD : FunD K "_law_pick" "_law_pick" (defArgs (top 70)) (defBody (top 70)) (defScope (top 70)) [] [] fa fd) (hm : mg "_law_pick" = some (.ref fa)) (hb : Binds K fd ["_law_row", "_law_many"] []) : Fn P w K mg base "_law_pick" 1 2 F__law_pick := fn_ok FD sc__law_pick hm hb rfl rfl fun cdv A outer s H E hr tk => w__law_pick FS hr tk
/-! is_from -/
theorem sc_is_from : FnScope ["value", "low", "high"] ["value", "low", "high"] (defScope (top 19)) := ⟨rfl, rfl, rfl, by decide +kernel, rfl, by decide +kernel, by decide +kernel⟩
theorem w_is_from {P : Program} {w : World} {K : PySem.W.Frag} {mg : Str → Option Value} {base : Heap} (FS : Facts K mg) {fa : Addr} {cdv : Value} {A : Around} {outer : List PySem.Env} {s : Shared} {H : Hp} {E : XK} (hr : Room 0 (A.deeper (envOfC "is_from" (defScope (top 19)) s.heap.objs.size fa cdv))) (tk : Takes (cxOf (L2.CX P w) P w K mg base ["value", "low", "high"] "is_from" (defScope (top 19)) fa cdv A outer s H E) (fun cls d _ H' => E cls d H')) : PSsM (cxOf (L2.CX P w) P w K mg base ["value", "low", "high"] "is_from" (defScope (top 19)) fa cdv A outer s H E) (fun cls d _ H' => E cls d H') (defBody (top 19)) m_is_from := by
  have sc := sc_is_from
  exact pssm_one (psm_ret (pm_and (pm_isi FS.b_isinstance (by decide +kernel) FS.b_int (by decide +kernel) FS.ri FS.ki_int (pm_ref 0)) (pm_and (pm_not (pm_isi FS.b_isinstance (by decide +kernel) FS.b_bool (by decide +kernel) FS.ri FS.ki_bool (pm_ref 0))) (pm_one (pm_chain op_le op_le (pm_var 1) (pm_var 0) (pm_var 2))))))
theorem f_is_from {P : Program} {w : World} {K : PySem.W.Frag} {mg : Str → Option Value} {base : Heap} {fa : Addr} {fd : FuncData} (FS : Facts K mg) (FD : FunD K "is_from" "is_from" (defArgs (top 19)) (defBody (top 19)) (defScope (top 19)) [] [] fa fd) (hm : mg "is_from" = some (.ref fa)) (hb : Binds K fd ["value", "low", "high"] []) : Fn P w K mg base "is_from" 1 3 F_is_from := fn_ok FD sc_is_from hm hb rfl rfl fun cdv A outer s H E hr tk => w_is_from FS hr tk
/-! check_lengths -/
theorem sc_check_lengths : FnScope ["least", "most"] ["least", "most"] (defScope (top 22)) := ⟨rfl, rfl, rfl, by decide +kernel, rfl, by decide +kernel, by decide +kernel⟩
theorem w_check_lengths {P : Program} {w : World} {K : PySem.W.Frag} {mg : Str → Option Value} {base : Heap} (FS : Facts K mg) (G_is_from : Fn P w K mg base "is_from" 1 3 F_is_from) {fa : Addr} {cdv : Value} {A : Around} {outer : List PySem.Env} {s : Shared} {H : Hp} {E : XK} (hr : Room 1 (A.deeper (envOfC "check_lengths" (defScope (top 22)) s.heap.objs.size fa cdv))) (tk : Takes (cxOf (L2.CX P w) P w K mg base ["least", "most"] "check_lengths" (defScope (top 22)) fa cdv A outer s H E) (fun cls d _ H' => E cls d H')) : PSsM (cxOf (L2.CX P w) P w K mg base ["least", "most"] "check_lengths" (defScope (top 22)) fa cdv A outer s H E) (fun cls d _ H' => E cls d H') (defBody (top 22)) m_check_lengths := by
  have sc := sc_check_lengths
  exact pssm_cons (psm_if (pmt_not (pmt_val (pm_call G_is_from hr tk (pma_cons (pm_var 0) (pma_cons (pm_int) (pma_cons (pm_gint FS.c_MOST_LEAST) (pma_nil)))) (cons_len (cons_len (cons_len nil_len))))))
      (pssm_one (psm_raise0 FS.e_BadLengths tk))
      (pssm_nil))
      (pssm_one (psm_if (pmt_w (pmw_and (pmt_notN (pm_ref 1)) (pmw_and1 (pmt_not (pmt_val (pm_call G_is_from hr tk (pma_cons (pm_var 1) (pma_cons (pm_var 0) (pma_cons (pm_gint FS.c_MOST_LENGTH) (pma_nil)))) (cons_len (cons_len (cons_len nil_len)))))))))
      (pssm_one (psm_raise0 FS.e_BadLengths tk))
      (pssm_nil)))
theorem f_check_lengths {P : Program} {w : World} {K : PySem.W.Frag} {mg : Str → Option Value} {base : Heap} {fa : Addr} {fd : FuncData} (FS : Facts K mg) (G_is_from : Fn P w K mg base "is_from" 1 3 F_is_from) (FD : FunD K "check_lengths" "check_lengths" (defArgs (top 22)) (defBody (top 22)) (defScope (top 22)) [] [] fa fd) (hm : mg "check_lengths" = some (.ref fa)) (hb : Binds K fd ["least", "most"] []) : Fn P w K mg base "check_lengths" 2 2 F_check_lengths := fn_ok FD sc_check_lengths hm hb rfl rfl fun cdv A outer s H E hr tk => w_check_lengths FS G_is_from hr tk
/-! check_shape -/
theorem sc_check_shape : FnScope ["signs", "window"] ["signs", "window"] (defScope (top 21)) := ⟨rfl, rfl, rfl, by decide +kernel, rfl, by decide +kernel, by decide +kernel⟩
theorem w_check_shape {P : Program} {w : World} {K : PySem.W.Frag} {mg : Str → Option Value} {base : Heap} (FS : Facts K mg) (G_is_from : Fn P w K mg base "is_from" 1 3 F_is_from) {fa : Addr} {cdv : Value} {A : Around} {outer : List PySem.Env} {s : Shared} {H : Hp} {E : XK} (hr : Room 1 (A.deeper (envOfC "check_shape" (defScope (top 21)) s.heap.objs.size fa cdv))) (tk : Takes (cxOf (L2.CX P w) P w K mg base ["signs", "window"] "check_shape" (defScope (top 21)) fa cdv A outer s H E) (fun cls d _ H' => E cls d H')) : PSsM (cxOf (L2.CX P w) P w K mg base ["signs", "window"] "check_shape" (defScope (top 21)) fa cdv A outer s H E) (fun cls d _ H' => E cls d H') (defBody (top 21)) m_check_shape := by
  have sc := sc_check_shape
  exact pssm_cons (psm_if (pmt_not (pmt_val (pm_call G_is_from hr tk (pma_cons (pm_var 0) (pma_cons (pm_int) (pma_cons (pm_gint FS.c_MOST_SIGNS) (pma_nil)))) (cons_len (cons_len (cons_len nil_len))))))
      (pssm_one (psm_raise0 FS.e_BadSigns tk))
      (pssm_nil))
      (pssm_one (psm_if (pmt_not (pmt_val (pm_call G_is_from hr tk (pma_cons (pm_var 1) (pma_cons (pm_int) (pma_cons (pm_gint FS.c_MOST_WINDOW) (pma_nil)))) (cons_len (cons_len (cons_len nil_len))))))
      (pssm_one (psm_raise0 FS.e_BadWindow tk))
      (pssm_nil)))
theorem f_check_shape {P : Program} {w : World} {K : PySem.W.Frag} {mg : Str → Option Value} {base : Heap} {fa : Addr} {fd : FuncData} (FS : Facts K mg) (G_is_from : Fn P w K mg base "is_from" 1 3 F_is_from) (FD : FunD K "check_shape" "check_shape" (defArgs (top 21)) (defBody (top 21)) (defScope (top 21)) [] [] fa fd) (hm : mg "check_shape" = some (.ref fa)) (hb : Binds K fd ["signs", "window"] []) : Fn P w K mg base "check_shape" 2 2 F_check_shape := fn_ok FD sc_check_shape hm hb rfl rfl fun cdv A outer s H E hr tk => w_check_shape FS G_is_from hr tk
/-! is_word -/
theorem sc_is_word : FnScope ["signs", "window", "value", "one"] ["signs", "window", "value"] (defScope (top 20)) := ⟨rfl, rfl, rfl, by decide +kernel, rfl, by decide +kernel, by decide +kernel⟩
theorem w_is_word {P : Program} {w : World} {K : PySem.W.Frag} {mg : Str → Option Value} {base : Heap} (FS : Facts K mg) (G_is_from : Fn P w K mg base "is_from" 1 3 F_is_from) {fa : Addr} {cdv : Value} {A : Around} {outer : List PySem.Env} {s : Shared} {H : Hp} {E : XK} (hr : Room 1 (A.deeper (envOfC "is_word" (defScope (top 20)) s.heap.objs.size fa cdv))) (tk : Takes (cxOf (L2.CX P w) P w K mg base ["signs", "window", "value", "one"] "is_word" (defScope (top 20)) fa cdv A outer s H E) (fun cls d _ H' => E cls d H')) : PSsM (cxOf (L2.CX P w) P w K mg base ["signs", "window", "value", "one"] "is_word" (defScope (top 20)) fa cdv A outer s H E) (fun cls d _ H' => E cls d H') (defBody (top 20)) m_is_word := by
  have sc := sc_is_word
  exact pssm_one (psm_ret (pm_and (pm_isi FS.b_isinstance (by decide +kernel) FS.b_tuple (by decide +kernel) FS.ri FS.ki_tuple (pm_ref 2)) (pm_and (pm_eq hr.units (pm_toRef (pm_len FS.b_len (pm_ref 2))) (pm_ref 1)) (pm_one (pm_all FS.b_all (pm_toRef (pm_give (pmo_lc (pim_items (pm_var 2)) (fun _ _ _ _ _ => pgm_name 3 sc.nd) (fun _ _ _ _ _ => pmts_nil) (fun _ _ _ _ _ => pm_call G_is_from hr takes0 (pma_cons (pm_var 3) (pma_cons (pm_int) (pma_cons (pm_sub (pm_ref 0) (pm_toRef (pm_int))) (pma_nil)))) (cons_len (cons_len (cons_len nil_len)))) rfl sc.nd [("one", 3)]))))))))
theorem f_is_word {P : Program} {w : World} {K : PySem.W.Frag} {mg : Str → Option Value} {base : Heap} {fa : Addr} {fd : FuncData} (FS : Facts K mg) (G_is_from : Fn P w K mg base "is_from" 1 3 F_is_from) (FD : FunD K "is_word" "is_word" (defArgs (top 20)) (defBody (top 20)) (defScope (top 20)) [] [] fa fd) (hm : mg "is_word" = some (.ref fa)) (hb : Binds K fd ["signs", "window", "value"] []) : Fn P w K mg base "is_word" 2 3 F_is_word := fn_ok FD sc_is_word hm hb rfl rfl fun cdv A outer s H E hr tk => w_is_word FS G_is_from hr tk
/-! Rule.__init__ -/
theorem sc_Rule : FnScope ["self", "signs", "window", "words", "least", "most", "index", "word"] ["self", "signs", "window", "words", "least", "most"] (defScope (inClass (top 23) 0)) := ⟨rfl, rfl, rfl, by decide +kernel, rfl, by decide +kernel, by decide +kernel⟩
theorem w_Rule {P : Program} {w : World} {K : PySem.W.Frag} {mg : Str → Option Value} {base : Heap} (FS : Facts K mg) (G_BadWords : XInit P w K mg base "BadWords" ["index"] 1) (G_check_lengths : Fn P w K mg base "check_lengths" 2 2 F_check_lengths) (G_check_shape : Fn P w K mg base "check_shape" 2 2 F_check_shape) (G_is_word : Fn P w K mg base "is_word" 2 3 F_is_word) {fa : Addr} {cdv : Value} {A : Around} {outer : List PySem.Env} {s : Shared} {H : Hp} {E : XK} (hr : Room 2 (A.deeper (envOfC "Rule.__init__" (defScope (inClass (top 23) 0)) s.heap.objs.size fa cdv))) (tk : Takes (cxOf (L2.CX P w) P w K mg base ["self", "signs", "window", "words", "least", "most", "index", "word"] "Rule.__init__" (defScope (inClass (top 23) 0)) fa cdv A outer s H E) (fun cls d _ H' => E cls d H')) : PSs (cxOf (L2.CX P w) P w K mg base ["self", "signs", "window", "words", "least", "most", "index", "word"] "Rule.__init__" (defScope (inClass (top 23) 0)) fa cdv A outer s H E) (defBody (inClass (top 23) 0)) (fun D' σ H1 => tS w K (fun cls d _ H' => E cls d H') m_Rule { D' with nx := tStores K D' } σ H1) := by
  have sc := sc_Rule
  exact pssi_cons (psm_expr (pm_call G_check_shape hr tk (pma_cons (pm_var 1) (pma_cons (pm_var 2) (pma_nil))) (cons_len (cons_len nil_len))))
      (pssi_cons (psm_if (pmt_not (pmt_val (pm_isi FS.b_isinstance (by decide +kernel) FS.b_tuple (by decide +kernel) FS.ri FS.ki_tuple (pm_ref 3))))
      (pssm_one (psm_raiseX G_BadWords (by decide) hr tk (pma_cons (pm_non) (pma_nil)) (cons_len nil_len)))
      (pssm_nil))
      (pssi_cons (psm_for PassesOwn.leaving rfl (pim_enum FS.b_enumerate (pma_cons (pm_var 3) (pma_nil))) (pgm_tup (pgsm_cons (pgm_name 6 sc.nd) (pgsm_cons (pgm_name 7 sc.nd) (pgsm_nil)))) (gTup_quiet (gsCons_quiet (gN_quiet 6) (gsCons_quiet (gN_quiet 7) (gsNil_quiet))))
      (pssm_one (psm_if (pmt_w (pmw_or (pmt_not (pmt_val (pm_call G_is_word hr tk (pma_cons (pm_var 1) (pma_cons (pm_var 2) (pma_cons (pm_var 7) (pma_nil)))) (cons_len (cons_len (cons_len nil_len)))))) (pmw_or1 (pmt_w (pmw_and (pmt_gt hr.units (pm_ref 6) (pm_toRef (pm_int))) (pmw_and1 (pmt_le hr.units (pm_ref 7) (pm_toRef (pm_ix hr.units (pm_ref 3) (pm_toRef (pm_sub (pm_ref 6) (pm_toRef (pm_int)))))))))))))
      (pssm_one (psm_raiseX G_BadWords (by decide) hr tk (pma_cons (pm_var 6) (pma_nil)) (cons_len nil_len)))
      (pssm_nil))))
      (pssi_cons (psm_expr (pm_call G_check_lengths hr tk (pma_cons (pm_var 4) (pma_cons (pm_var 5) (pma_nil))) (cons_len (cons_len nil_len))))
      (pssi_nil (pss_stores (ps_store1 1 FS.cl FS.na_many) (ps_store1 2 FS.cl FS.na_wide) (ps_store1 3 FS.cl FS.na_rows) (ps_store1 4 FS.cl FS.na_low) (ps_store1 5 FS.cl FS.na_high))))))
theorem f_Rule {P : Program} {w : World} {K : PySem.W.Frag} {mg : Str → Option Value} {base : Heap} {fa : Addr} {fd : FuncData} (FS : Facts K mg) (G_BadWords : XInit P w K mg base "BadWords" ["index"] 1) (G_check_lengths : Fn P w K mg base "check_lengths" 2 2 F_check_lengths) (G_check_shape : Fn P w K mg base "check_shape" 2 2 F_check_shape) (G_is_word : Fn P w K mg base "is_word" 2 3 F_is_word) (FD : FunD K "__init__" "Rule.__init__" (defArgs (inClass (top 23) 0)) (defBody (inClass (top 23) 0)) (defScope (inClass (top 23) 0)) [] [] fa fd) (hm : mg "Rule" = some (.ref (He.ga K "Rule"))) (hb : Binds K fd ["self", "signs", "window", "words", "least", "most"] []) (hk : Mk K (He.ga K "Rule") fa) : MkF P w K mg base 3 F_Rule := mk_ok FD sc_Rule hm hb hk rfl rfl fun cdv A outer s H E hr tk => w_Rule FS G_BadWords G_check_lengths G_check_shape G_is_word hr tk
/-! step_of -/
theorem sc_step_of : FnScope ["rule", "stand", "sign", "last", "length", "does"] ["rule", "stand", "sign"] (defScope (top 28)) := ⟨rfl, rfl, rfl, by decide +kernel, rfl, by decide +kernel, by decide +kernel⟩
theorem w_step_of {P : Program} {w : World} {K : PySem.W.Frag} {mg : Str → Option Value} {base : Heap} (FS : Facts K mg) {fa : Addr} {cdv : Value} {A : Around} {outer : List PySem.Env} {s : Shared} {H : Hp} {E : XK} (hr : Room 0 (A.deeper (envOfC "step_of" (defScope (top 28)) s.heap.objs.size fa cdv))) (tk : Takes (cxOf (L2.CX P w) P w K mg base ["rule", "stand", "sign", "last", "length", "does"] "step_of" (defScope (top 28)) fa cdv A outer s H E) (fun cls d _ H' => E cls d H')) : PSsM (cxOf (L2.CX P w) P w K mg base ["rule", "stand", "sign", "last", "length", "does"] "step_of" (defScope (top 28)) fa cdv A outer s H E) (fun cls d _ H' => E cls d H') (defBody (top 28)) m_step_of := by
  have sc := sc_step_of
  exact pssm_cons (psm_asg (pm_var 1) (pgm_tup (pgsm_cons (pgm_name 3 sc.nd) (pgsm_cons (pgm_name 4 sc.nd) (pgsm_nil)))) (gTup_quiet (gsCons_quiet (gN_quiet 3) (gsCons_quiet (gN_quiet 4) (gsNil_quiet)))))
      (pssm_cons (psm_set 3 (pm_slice (pm_toRef (pm_tup (pma_star (pm_ref 3) (pma_cons (pm_var 2) (pma_nil))))) (pmp_some (pm_neg (pm_fld 1 FS.cl FS.na_wide rfl (pm_ref 0)))) (pmp_none)) sc.nd)
      (pssm_cons (psm_augI 4 ip_add (pm_int) sc.nd)
      (pssm_cons (psm_set 5 (pm_or (pm_and (pm_ge (pm_ref 4) (pm_toRef (pm_fld 3 FS.cl FS.na_low rfl (pm_ref 0)))) (pm_one (pm_in (u65 hr) (pm_ref 3) (pm_toRef (pm_fld 2 FS.cl FS.na_rows rfl (pm_ref 0)))))) (pm_one (pm_eq hr.units (pm_ref 4) (pm_toRef (pm_fld 4 FS.cl FS.na_high rfl (pm_ref 0)))))) sc.nd)
      (pssm_cons (psm_if (pmt_val (pm_var 5))
      (pssm_one (psm_ret (pm_tup (pma_cons (pm_tup (pma_cons (pm_var 3) (pma_cons (pm_int) (pma_nil)))) (pma_cons (pm_bl) (pma_nil))))))
      (pssm_nil))
      (pssm_one (psm_ret (pm_tup (pma_cons (pm_tup (pma_cons (pm_var 3) (pma_cons (pm_ifExp (pmt_notN (pm_toRef (pm_fld 4 FS.cl FS.na_high rfl (pm_ref 0)))) (pm_var 4) (pm_min2 FS.b_min (pma_cons (pm_var 4) (pma_cons (pm_fld 3 FS.cl FS.na_low rfl (pm_ref 0)) (pma_nil))))) (pma_nil)))) (pma_cons (pm_bl) (pma_nil))))))))))
theorem f_step_of {P : Program} {w : World} {K : PySem.W.Frag} {mg : Str → Option Value} {base : Heap} {fa : Addr} {fd : FuncData} (FS : Facts K mg) (FD : FunD K "step_of" "step_of" (defArgs (top 28)) (defBody (top 28)) (defScope (top 28)) [] [] fa fd) (hm : mg "step_of" = some (.ref fa)) (hb : Binds K fd ["rule", "stand", "sign"] []) : Fn P w K mg base "step_of" 1 3 F_step_of := fn_ok FD sc_step_of hm hb rfl rfl fun cdv A outer s H E hr tk => w_step_of FS hr tk
/-! parting -/
theorem sc_parting : FnScope ["one", "other", "known", "layer", "later", "text", "first", "second", "sign", "mine", "does", "yours", "did"] ["one", "other"] (defScope (top 46)) := ⟨rfl, rfl, rfl, by decide +kernel, rfl, by decide +kernel, by decide +kernel⟩
theorem w_parting {P : Program} {w : World} {K : PySem.W.Frag} {mg : Str → Option Value} {base : Heap} (FS : Facts K mg) (G_step_of : Fn P w K mg base "step_of" 1 3 F_step_of) {fa : Addr} {cdv : Value} {A : Around} {outer : List PySem.Env} {s : Shared} {H : Hp} {E : XK} (hr : Room 1 (A.deeper (envOfC "parting" (defScope (top 46)) s.heap.objs.size fa cdv))) (tk : Takes (cxOf (L2.CX P w) P w K mg base ["one", "other", "known", "layer", "later", "text", "first", "second", "sign", "mine", "does", "yours", "did"] "parting" (defScope (top 46)) fa cdv A outer s H E) (fun cls d _ H' => E cls d H')) : PSsM (cxOf (L2.CX P w) P w K mg base ["one", "other", "known", "layer", "later", "text", "first", "second", "sign", "mine", "does", "yours", "did"] "parting" (defScope (top 46)) fa cdv A outer s H E) (fun cls d _ H' => E cls d H') (defBody (top 46)) m_parting := by
  have sc := sc_parting
  exact pssm_cons (psm_if (pmt_ne hr.units (pm_toRef (pm_fld 0 FS.cl FS.na_many rfl (pm_ref 0))) (pm_toRef (pm_fld 0 FS.cl FS.na_many rfl (pm_ref 1))))
      (pssm_one (psm_raise0 FS.e_Unlike tk))
      (pssm_nil))
      (pssm_cons (psm_par2 2 3 (pml_own (pmo_disp1 hr.units (pm_tup (pma_cons (pm_gtup FS.g_BEGIN FS.r_BEGIN) (pma_cons (pm_gtup FS.g_BEGIN FS.r_BEGIN) (pma_nil)))) (pm_bl)) (pml_val (pm_give (pmo_lst (pma_cons (pm_tup (pma_cons (pm_tup (pma_nil)) (pma_cons (pm_gtup FS.g_BEGIN FS.r_BEGIN) (pma_cons (pm_gtup FS.g_BEGIN FS.r_BEGIN) (pma_nil))))) (pma_nil)))) (pml_nil))) sc.nd)
      (pssm_cons (psm_while PassesOwn.leaving (pmt_ne hr.units (pm_ref 3) (pm_toRef (pm_give (pmo_lst (pma_nil)))))
      (pssm_cons (psm_setO 4 (pmo_lst (pma_nil)) sc.nd)
      (pssm_cons (psm_for PassesOwn.leaving rfl (pim_items (pm_var 3)) (pgm_tup (pgsm_cons (pgm_name 5 sc.nd) (pgsm_cons (pgm_name 6 sc.nd) (pgsm_cons (pgm_name 7 sc.nd) (pgsm_nil))))) (gTup_quiet (gsCons_quiet (gN_quiet 5) (gsCons_quiet (gN_quiet 6) (gsCons_quiet (gN_quiet 7) (gsNil_quiet)))))
      (pssm_one (psm_for PassesOwn.leaving rfl (pim_range1 FS.b_range (pma_cons (pm_fld 0 FS.cl FS.na_many rfl (pm_ref 0)) (pma_nil))) (pgm_name 8 sc.nd) (gN_quiet 8)
      (pssm_cons (psm_asg (pm_call G_step_of hr tk (pma_cons (pm_var 0) (pma_cons (pm_var 6) (pma_cons (pm_var 8) (pma_nil)))) (cons_len (cons_len (cons_len nil_len)))) (pgm_tup (pgsm_cons (pgm_name 9 sc.nd) (pgsm_cons (pgm_name 10 sc.nd) (pgsm_nil)))) (gTup_quiet (gsCons_quiet (gN_quiet 9) (gsCons_quiet (gN_quiet 10) (gsNil_quiet)))))
      (pssm_cons (psm_asg (pm_call G_step_of hr tk (pma_cons (pm_var 1) (pma_cons (pm_var 7) (pma_cons (pm_var 8) (pma_nil)))) (cons_len (cons_len (cons_len nil_len)))) (pgm_tup (pgsm_cons (pgm_name 11 sc.nd) (pgsm_cons (pgm_name 12 sc.nd) (pgsm_nil)))) (gTup_quiet (gsCons_quiet (gN_quiet 11) (gsCons_quiet (gN_quiet 12) (gsNil_quiet)))))
      (pssm_cons (psm_if (pmt_ne hr.units (pm_ref 10) (pm_ref 12))
      (pssm_one (psm_ret (pm_tup (pma_star (pm_ref 5) (pma_cons (pm_var 8) (pma_nil))))))
      (pssm_nil))
      (pssm_one (psm_if (pmt_notin (u65 hr) (pm_toRef (pm_tup (pma_cons (pm_var 9) (pma_cons (pm_var 11) (pma_nil))))) (pm_ref 2))
      (pssm_cons (psm_put 2 hr.units (pm_tup (pma_cons (pm_var 9) (pma_cons (pm_var 11) (pma_nil)))) (pm_bl))
      (pssm_one (psm_append 4 (pm_tup (pma_cons (pm_tup (pma_star (pm_ref 5) (pma_cons (pm_var 8) (pma_nil)))) (pma_cons (pm_var 9) (pma_cons (pm_var 11) (pma_nil))))))))
      (pssm_nil)))))))))
      (pssm_one (psm_set 3 (pm_var 4) sc.nd)))))
      (pssm_one (psm_ret (pm_non)))))
theorem f_parting {P : Program} {w : World} {K : PySem.W.Frag} {mg : Str → Option Value} {base : Heap} {fa : Addr} {fd : FuncData} (FS : Facts K mg) (G_step_of : Fn P w K mg base "step_of" 1 3 F_step_of) (FD : FunD K "parting" "parting" (defArgs (top 46)) (defBody (top 46)) (defScope (top 46)) [] [] fa fd) (hm : mg "parting" = some (.ref fa)) (hb : Binds K fd ["one", "other"] []) : Fn P w K mg base "parting" 2 2 F_parting := fn_ok FD sc_parting hm hb rfl rfl fun cdv A outer s H E hr tk => w_parting FS G_step_of hr tk
/-! alike -/
theorem sc_alike : FnScope ["one", "other"] ["one", "other"] (defScope (top 47)) := ⟨rfl, rfl, rfl, by decide +kernel, rfl, by decide +kernel, by decide +kernel⟩
theorem w_alike {P : Program} {w : World} {K : PySem.W.Frag} {mg : Str → Option Value} {base : Heap} (FS : Facts K mg) (G_parting : Fn P w K mg base "parting" 2 2 F_parting) {fa : Addr} {cdv : Value} {A : Around} {outer : List PySem.Env} {s : Shared} {H : Hp} {E : XK} (hr : Room 2 (A.deeper (envOfC "alike" (defScope (top 47)) s.heap.objs.size fa cdv))) (tk : Takes (cxOf (L2.CX P w) P w K mg base ["one", "other"] "alike" (defScope (top 47)) fa cdv A outer s H E) (fun cls d _ H' => E cls d H')) : PSsM (cxOf (L2.CX P w) P w K mg base ["one", "other"] "alike" (defScope (top 47)) fa cdv A outer s H E) (fun cls d _ H' => E cls d H') (defBody (top 47)) m_alike := by
  have sc := sc_alike
  exact pssm_one (psm_ret (pm_isN (pm_toRef (pm_call G_parting hr tk (pma_cons (pm_var 0) (pma_cons (pm_var 1) (pma_nil))) (cons_len (cons_len nil_len))))))
theorem f_alike {P : Program} {w : World} {K : PySem.W.Frag} {mg : Str → Option Value} {base : Heap} {fa : Addr} {fd : FuncData} (FS : Facts K mg) (G_parting : Fn P w K mg base "parting" 2 2 F_parting) (FD : FunD K "alike" "alike" (defArgs (top 47)) (defBody (top 47)) (defScope (top 47)) [] [] fa fd) (hm : mg "alike" = some (.ref fa)) (hb : Binds K fd ["one", "other"] []) : Fn P w K mg base "alike" 3 2 F_alike := fn_ok FD sc_alike hm hb rfl rfl fun cdv A outer s H E hr tk => w_alike FS G_parting hr tk
/-! are_signs -/
theorem sc_are_signs : FnScope ["rule", "value", "sign"] ["rule", "value"] (defScope (top 25)) := ⟨rfl, rfl, rfl, by decide +kernel, rfl, by decide +kernel, by decide +kernel⟩
theorem w_are_signs {P : Program} {w : World} {K : PySem.W.Frag} {mg : Str → Option Value} {base : Heap} (FS : Facts K mg) (G_is_from : Fn P w K mg base "is_from" 1 3 F_is_from) {fa : Addr} {cdv : Value} {A : Around} {outer : List PySem.Env} {s : Shared} {H : Hp} {E : XK} (hr : Room 1 (A.deeper (envOfC "are_signs" (defScope (top 25)) s.heap.objs.size fa cdv))) (tk : Takes (cxOf (L2.CX P w) P w K mg base ["rule", "value", "sign"] "are_signs" (defScope (top 25)) fa cdv A outer s H E) (fun cls d _ H' => E cls d H')) : PSsM (cxOf (L2.CX P w) P w K mg base ["rule", "value", "sign"] "are_signs" (defScope (top 25)) fa cdv A outer s H E) (fun cls d _ H' => E cls d H') (defBody (top 25)) m_are_signs := by
  have sc := sc_are_signs
  exact pssm_one (psm_ret (pm_and (pm_isi FS.b_isinstance (by decide +kernel) FS.b_tuple (by decide +kernel) FS.ri FS.ki_tuple (pm_ref 1)) (pm_one (pm_all FS.b_all (pm_toRef (pm_give (pmo_lc (pim_items (pm_var 1)) (fun _ _ _ _ _ => pgm_name 2 sc.nd) (fun _ _ _ _ _ => pmts_nil) (fun _ _ _ _ _ => pm_call G_is_from hr takes0 (pma_cons (pm_var 2) (pma_cons (pm_int) (pma_cons (pm_sub (pm_toRef (pm_fld 0 FS.cl FS.na_many rfl (pm_ref 0))) (pm_toRef (pm_int))) (pma_nil)))) (cons_len (cons_len (cons_len nil_len)))) rfl sc.nd [("sign", 2)])))))))
theorem f_are_signs {P : Program} {w : World} {K : PySem.W.Frag} {mg : Str → Option Value} {base : Heap} {fa : Addr} {fd : FuncData} (FS : Facts K mg) (G_is_from : Fn P w K mg base "is_from" 1 3 F_is_from) (FD : FunD K "are_signs" "are_signs" (defArgs (top 25)) (defBody (top 25)) (defScope (top 25)) [] [] fa fd) (hm : mg "are_signs" = some (.ref fa)) (hb : Binds K fd ["rule", "value"] []) : Fn P w K mg base "are_signs" 2 2 F_are_signs := fn_ok FD sc_are_signs hm hb rfl rfl fun cdv A outer s H E hr tk => w_are_signs FS G_is_from hr tk
/-! is_text -/
theorem sc_is_text : FnScope ["rule", "value"] ["rule", "value"] (defScope (top 26)) := ⟨rfl, rfl, rfl, by decide +kernel, rfl, by decide +kernel, by decide +kernel⟩
theorem w_is_text {P : Program} {w : World} {K : PySem.W.Frag} {mg : Str → Option Value} {base : Heap} (FS : Facts K mg) (G_are_signs : Fn P w K mg base "are_signs" 2 2 F_are_signs) {fa : Addr} {cdv : Value} {A : Around} {outer : List PySem.Env} {s : Shared} {H : Hp} {E : XK} (hr : Room 2 (A.deeper (envOfC "is_text" (defScope (top 26)) s.heap.objs.size fa cdv))) (tk : Takes (cxOf (L2.CX P w) P w K mg base ["rule", "value"] "is_text" (defScope (top 26)) fa cdv A outer s H E) (fun cls d _ H' => E cls d H')) : PSsM (cxOf (L2.CX P w) P w K mg base ["rule", "value"] "is_text" (defScope (top 26)) fa cdv A outer s H E) (fun cls d _ H' => E cls d H') (defBody (top 26)) m_is_text := by
  have sc := sc_is_text
  exact pssm_one (psm_ret (pm_and (pm_call G_are_signs hr tk (pma_cons (pm_var 0) (pma_cons (pm_var 1) (pma_nil))) (cons_len (cons_len nil_len))) (pm_one (pm_le hr.units (pm_toRef (pm_len FS.b_len (pm_ref 1))) (pm_toRef (pm_gint FS.c_MOST_TEXT))))))
theorem f_is_text {P : Program} {w : World} {K : PySem.W.Frag} {mg : Str → Option Value} {base : Heap} {fa : Addr} {fd : FuncData} (FS : Facts K mg) (G_are_signs : Fn P w K mg base "are_signs" 2 2 F_are_signs) (FD : FunD K "is_text" "is_text" (defArgs (top 26)) (defBody (top 26)) (defScope (top 26)) [] [] fa fd) (hm : mg "is_text" = some (.ref fa)) (hb : Binds K fd ["rule", "value"] []) : Fn P w K mg base "is_text" 3 2 F_is_text := fn_ok FD sc_is_text hm hb rfl rfl fun cdv A outer s H E hr tk => w_is_text FS G_are_signs hr tk
/-! check_text -/
theorem sc_check_text : FnScope ["rule", "value"] ["rule", "value"] (defScope (top 27)) := ⟨rfl, rfl, rfl, by decide +kernel, rfl, by decide +kernel, by decide +kernel⟩
theorem w_check_text {P : Program} {w : World} {K : PySem.W.Frag} {mg : Str → Option Value} {base : Heap} (FS : Facts K mg) (G_is_text : Fn P w K mg base "is_text" 3 2 F_is_text) {fa : Addr} {cdv : Value} {A : Around} {outer : List PySem.Env} {s : Shared} {H : Hp} {E : XK} (hr : Room 3 (A.deeper (envOfC "check_text" (defScope (top 27)) s.heap.objs.size fa cdv))) (tk : Takes (cxOf (L2.CX P w) P w K mg base ["rule", "value"] "check_text" (defScope (top 27)) fa cdv A outer s H E) (fun cls d _ H' => E cls d H')) : PSsM (cxOf (L2.CX P w) P w K mg base ["rule", "value"] "check_text" (defScope (top 27)) fa cdv A outer s H E) (fun cls d _ H' => E cls d H') (defBody (top 27)) m_check_text := by
  have sc := sc_check_text
  exact pssm_one (psm_if (pmt_not (pmt_val (pm_call G_is_text hr tk (pma_cons (pm_var 0) (pma_cons (pm_var 1) (pma_nil))) (cons_len (cons_len nil_len)))))
      (pssm_one (psm_raise0 FS.e_BadText tk))
      (pssm_nil))
theorem f_check_text {P : Program} {w : World} {K : PySem.W.Frag} {mg : Str → Option Value} {base : Heap} {fa : Addr} {fd : FuncData} (FS : Facts K mg) (G_is_text : Fn P w K mg base "is_text" 3 2 F_is_text) (FD : FunD K "check_text" "check_text" (defArgs (top 27)) (defBody (top 27)) (defScope (top 27)) [] [] fa fd) (hm : mg "check_text" = some (.ref fa)) (hb : Binds K fd ["rule", "value"] []) : Fn P w K mg base "check_text" 4 2 F_check_text := fn_ok FD sc_check_text hm hb rfl rfl fun cdv A outer s H E hr tk => w_check_text FS G_is_text hr tk
/-! cuts_of -/
theorem sc_cuts_of : FnScope ["rule", "text", "found", "stand", "place", "sign", "does"] ["rule", "text"] (defScope (top 30)) := ⟨rfl, rfl, rfl, by decide +kernel, rfl, by decide +kernel, by decide +kernel⟩
theorem w_cuts_of {P : Program} {w : World} {K : PySem.W.Frag} {mg : Str → Option Value} {base : Heap} (FS : Facts K mg) (G_step_of : Fn P w K mg base "step_of" 1 3 F_step_of) {fa : Addr} {cdv : Value} {A : Around} {outer : List PySem.Env} {s : Shared} {H : Hp} {E : XK} (hr : Room 1 (A.deeper (envOfC "cuts_of" (defScope (top 30)) s.heap.objs.size fa cdv))) (tk : Takes (cxOf (L2.CX P w) P w K mg base ["rule", "text", "found", "stand", "place", "sign", "does"] "cuts_of" (defScope (top 30)) fa cdv A outer s H E) (fun cls d _ H' => E cls d H')) : PSsM (cxOf (L2.CX P w) P w K mg base ["rule", "text", "found", "stand", "place", "sign", "does"] "cuts_of" (defScope (top 30)) fa cdv A outer s H E) (fun cls d _ H' => E cls d H') (defBody (top 30)) m_cuts_of := by
  have sc := sc_cuts_of
  exact pssm_cons (psm_par2 2 3 (pml_own (pmo_lst (pma_nil)) (pml_val (pm_gtup FS.g_BEGIN FS.r_BEGIN) (pml_nil))) sc.nd)
      (pssm_cons (psm_for PassesOwn.leaving rfl (pim_enum FS.b_enumerate (pma_cons (pm_var 1) (pma_nil))) (pgm_tup (pgsm_cons (pgm_name 4 sc.nd) (pgsm_cons (pgm_name 5 sc.nd) (pgsm_nil)))) (gTup_quiet (gsCons_quiet (gN_quiet 4) (gsCons_quiet (gN_quiet 5) (gsNil_quiet))))
      (pssm_cons (psm_asg (pm_call G_step_of hr tk (pma_cons (pm_var 0) (pma_cons (pm_var 3) (pma_cons (pm_var 5) (pma_nil)))) (cons_len (cons_len (cons_len nil_len)))) (pgm_tup (pgsm_cons (pgm_name 3 sc.nd) (pgsm_cons (pgm_name 6 sc.nd) (pgsm_nil)))) (gTup_quiet (gsCons_quiet (gN_quiet 3) (gsCons_quiet (gN_quiet 6) (gsNil_quiet)))))
      (pssm_one (psm_if (pmt_val (pm_var 6))
      (pssm_one (psm_append 2 (pm_add (pm_ref 4) (pm_toRef (pm_int)))))
      (pssm_nil)))))
      (pssm_one (psm_ret (pm_var 2))))
theorem f_cuts_of {P : Program} {w : World} {K : PySem.W.Frag} {mg : Str → Option Value} {base : Heap} {fa : Addr} {fd : FuncData} (FS : Facts K mg) (G_step_of : Fn P w K mg base "step_of" 1 3 F_step_of) (FD : FunD K "cuts_of" "cuts_of" (defArgs (top 30)) (defBody (top 30)) (defScope (top 30)) [] [] fa fd) (hm : mg "cuts_of" = some (.ref fa)) (hb : Binds K fd ["rule", "text"] []) : Fn P w K mg base "cuts_of" 2 2 F_cuts_of := fn_ok FD sc_cuts_of hm hb rfl rfl fun cdv A outer s H E hr tk => w_cuts_of FS G_step_of hr tk
/-! cuts -/
theorem sc_cuts : FnScope ["rule", "text"] ["rule", "text"] (defScope (top 31)) := ⟨rfl, rfl, rfl, by decide +kernel, rfl, by decide +kernel, by decide +kernel⟩
theorem w_cuts {P : Program} {w : World} {K : PySem.W.Frag} {mg : Str → Option Value} {base : Heap} (FS : Facts K mg) (G_check_text : Fn P w K mg base "check_text" 4 2 F_check_text) (G_cuts_of : Fn P w K mg base "cuts_of" 2 2 F_cuts_of) {fa : Addr} {cdv : Value} {A : Around} {outer : List PySem.Env} {s : Shared} {H : Hp} {E : XK} (hr : Room 4 (A.deeper (envOfC "cuts" (defScope (top 31)) s.heap.objs.size fa cdv))) (tk : Takes (cxOf (L2.CX P w) P w K mg base ["rule", "text"] "cuts" (defScope (top 31)) fa cdv A outer s H E) (fun cls d _ H' => E cls d H')) : PSsM (cxOf (L2.CX P w) P w K mg base ["rule", "text"] "cuts" (defScope (top 31)) fa cdv A outer s H E) (fun cls d _ H' => E cls d H') (defBody (top 31)) m_cuts := by
  have sc := sc_cuts
  exact pssm_cons (psm_expr (pm_call G_check_text hr tk (pma_cons (pm_var 0) (pma_cons (pm_var 1) (pma_nil))) (cons_len (cons_len nil_len))))
      (pssm_one (psm_ret (pm_call G_cuts_of hr tk (pma_cons (pm_var 0) (pma_cons (pm_var 1) (pma_nil))) (cons_len (cons_len nil_len)))))
theorem f_cuts {P : Program} {w : World} {K : PySem.W.Frag} {mg : Str → Option Value} {base : Heap} {fa : Addr} {fd : FuncData} (FS : Facts K mg) (G_check_text : Fn P w K mg base "check_text" 4 2 F_check_text) (G_cuts_of : Fn P w K mg base "cuts_of" 2 2 F_cuts_of) (FD : FunD K "cuts" "cuts" (defArgs (top 31)) (defBody (top 31)) (defScope (top 31)) [] [] fa fd) (hm : mg "cuts" = some (.ref fa)) (hb : Binds K fd ["rule", "text"] []) : Fn P w K mg base "cuts" 5 2 F_cuts := fn_ok FD sc_cuts hm hb rfl rfl fun cdv A outer s H E hr tk => w_cuts FS G_check_text G_cuts_of hr tk
/-! all_words -/
theorem sc_all_words : FnScope ["signs", "window", "found", "turn", "word", "sign"] ["signs", "window"] (defScope (top 48)) := ⟨rfl, rfl, rfl, by decide +kernel, rfl, by decide +kernel, by decide +kernel⟩
theorem w_all_words {P : Program} {w : World} {K : PySem.W.Frag} {mg : Str → Option Value} {base : Heap} (FS : Facts K mg) {fa : Addr} {cdv : Value} {A : Around} {outer : List PySem.Env} {s : Shared} {H : Hp} {E : XK} (hr : Room 0 (A.deeper (envOfC "all_words" (defScope (top 48)) s.heap.objs.size fa cdv))) (tk : Takes (cxOf (L2.CX P w) P w K mg base ["signs", "window", "found", "turn", "word", "sign"] "all_words" (defScope (top 48)) fa cdv A outer s H E) (fun cls d _ H' => E cls d H')) : PSsM (cxOf (L2.CX P w) P w K mg base ["signs", "window", "found", "turn", "word", "sign"] "all_words" (defScope (top 48)) fa cdv A outer s H E) (fun cls d _ H' => E cls d H') (defBody (top 48)) m_all_words := by
  have sc := sc_all_words
  exact pssm_cons (psm_set 2 (pm_give (pmo_lst (pma_cons (pm_tup (pma_nil)) (pma_nil)))) sc.nd)
      (pssm_cons (psm_for PassesOwn.leaving rfl (pim_range1 FS.b_range (pma_cons (pm_var 1) (pma_nil))) (pgm_name 3 sc.nd) (gN_quiet 3)
      (pssm_one (psm_setLc2 2 (pim_items (pm_var 2)) (fun _ _ _ _ _ => pgm_name 4 sc.nd) (fun _ _ _ _ _ => pim_range1 FS.b_range (pma_cons (pm_var 0) (pma_nil))) (fun _ _ _ _ _ => pgm_name 5 sc.nd) (fun _ _ _ _ _ => pm_tup (pma_star (pm_ref 4) (pma_cons (pm_var 5) (pma_nil)))) rfl sc.nd [("word", 4), ("sign", 5)] [5])))
      (pssm_one (psm_ret (pm_var 2))))
theorem f_all_words {P : Program} {w : World} {K : PySem.W.Frag} {mg : Str → Option Value} {base : Heap} {fa : Addr} {fd : FuncData} (FS : Facts K mg) (FD : FunD K "all_words" "all_words" (defArgs (top 48)) (defBody (top 48)) (defScope (top 48)) [] [] fa fd) (hm : mg "all_words" = some (.ref fa)) (hb : Binds K fd ["signs", "window"] []) : Fn P w K mg base "all_words" 1 2 F_all_words := fn_ok FD sc_all_words hm hb rfl rfl fun cdv A outer s H E hr tk => w_all_words FS hr tk
/-! check_small -/
theorem sc_check_small : FnScope ["signs", "window"] ["signs", "window"] (defScope (top 49)) := ⟨rfl, rfl, rfl, by decide +kernel, rfl, by decide +kernel, by decide +kernel⟩
theorem w_check_small {P : Program} {w : World} {K : PySem.W.Frag} {mg : Str → Option Value} {base : Heap} (FS : Facts K mg) (G_all_words : Fn P w K mg base "all_words" 1 2 F_all_words) {fa : Addr} {cdv : Value} {A : Around} {outer : List PySem.Env} {s : Shared} {H : Hp} {E : XK} (hr : Room 1 (A.deeper (envOfC "check_small" (defScope (top 49)) s.heap.objs.size fa cdv))) (tk : Takes (cxOf (L2.CX P w) P w K mg base ["signs", "window"] "check_small" (defScope (top 49)) fa cdv A outer s H E) (fun cls d _ H' => E cls d H')) : PSsM (cxOf (L2.CX P w) P w K mg base ["signs", "window"] "check_small" (defScope (top 49)) fa cdv A outer s H E) (fun cls d _ H' => E cls d H') (defBody (top 49)) m_check_small := by
  have sc := sc_check_small
  exact pssm_one (psm_if (pmt_gt hr.units (pm_toRef (pm_len FS.b_len (pm_toRef (pm_call G_all_words hr tk (pma_cons (pm_var 0) (pma_cons (pm_var 1) (pma_nil))) (cons_len (cons_len nil_len)))))) (pm_toRef (pm_gint FS.c_MOST_WORDS)))
      (pssm_one (psm_raise0 FS.e_TooMany tk))
      (pssm_nil))
theorem f_check_small {P : Program} {w : World} {K : PySem.W.Frag} {mg : Str → Option Value} {base : Heap} {fa : Addr} {fd : FuncData} (FS : Facts K mg) (G_all_words : Fn P w K mg base "all_words" 1 2 F_all_words) (FD : FunD K "check_small" "check_small" (defArgs (top 49)) (defBody (top 49)) (defScope (top 49)) [] [] fa fd) (hm : mg "check_small" = some (.ref fa)) (hb : Binds K fd ["signs", "window"] []) : Fn P w K mg base "check_small" 2 2 F_check_small := fn_ok FD sc_check_small hm hb rfl rfl fun cdv A outer s H E hr tk => w_check_small FS G_all_words hr tk
/-! stands_of -/
theorem sc_stands_of : FnScope ["rule", "found", "waiting", "later", "stand", "sign", "there"] ["rule"] (defScope (top 29)) := ⟨rfl, rfl, rfl, by decide +kernel, rfl, by decide +kernel, by decide +kernel⟩
theorem w_stands_of {P : Program} {w : World} {K : PySem.W.Frag} {mg : Str → Option Value} {base : Heap} (FS : Facts K mg) (G_step_of : Fn P w K mg base "step_of" 1 3 F_step_of) {fa : Addr} {cdv : Value} {A : Around} {outer : List PySem.Env} {s : Shared} {H : Hp} {E : XK} (hr : Room 1 (A.deeper (envOfC "stands_of" (defScope (top 29)) s.heap.objs.size fa cdv))) (tk : Takes (cxOf (L2.CX P w) P w K mg base ["rule", "found", "waiting", "later", "stand", "sign", "there"] "stands_of" (defScope (top 29)) fa cdv A outer s H E) (fun cls d _ H' => E cls d H')) : PSsM (cxOf (L2.CX P w) P w K mg base ["rule", "found", "waiting", "later", "stand", "sign", "there"] "stands_of" (defScope (top 29)) fa cdv A outer s H E) (fun cls d _ H' => E cls d H') (defBody (top 29)) m_stands_of := by
  have sc := sc_stands_of
  exact pssm_cons (psm_par2 1 2 (pml_own (pmo_disp1 hr.units (pm_gtup FS.g_BEGIN FS.r_BEGIN) (pm_tup (pma_nil))) (pml_val (pm_give (pmo_lst (pma_cons (pm_gtup FS.g_BEGIN FS.r_BEGIN) (pma_nil)))) (pml_nil))) sc.nd)
      (pssm_cons (psm_while PassesOwn.leaving (pmt_ne hr.units (pm_ref 2) (pm_toRef (pm_give (pmo_lst (pma_nil)))))
      (pssm_cons (psm_setO 3 (pmo_lst (pma_nil)) sc.nd)
      (pssm_cons (psm_for PassesOwn.leaving rfl (pim_items (pm_var 2)) (pgm_name 4 sc.nd) (gN_quiet 4)
      (pssm_one (psm_for PassesOwn.leaving rfl (pim_range1 FS.b_range (pma_cons (pm_fld 0 FS.cl FS.na_many rfl (pm_ref 0)) (pma_nil))) (pgm_name 5 sc.nd) (gN_quiet 5)
      (pssm_cons (psm_set 6 (pm_ix hr.units (pm_toRef (pm_call G_step_of hr tk (pma_cons (pm_var 0) (pma_cons (pm_var 4) (pma_cons (pm_var 5) (pma_nil)))) (cons_len (cons_len (cons_len nil_len))))) (pm_toRef (pm_int))) sc.nd)
      (pssm_one (psm_if (pmt_notin (u65 hr) (pm_ref 6) (pm_ref 1))
      (pssm_cons (psm_put 1 hr.units (pm_var 6) (pm_tup (pma_star (pm_toRef (pm_ix hr.units (pm_ref 1) (pm_ref 4))) (pma_cons (pm_var 5) (pma_nil)))))
      (pssm_one (psm_append 3 (pm_var 6))))
      (pssm_nil)))))))
      (pssm_one (psm_set 2 (pm_var 3) sc.nd)))))
      (pssm_one (psm_ret (pm_var 1))))
theorem f_stands_of {P : Program} {w : World} {K : PySem.W.Frag} {mg : Str → Option Value} {base : Heap} {fa : Addr} {fd : FuncData} (FS : Facts K mg) (G_step_of : Fn P w K mg base "step_of" 1 3 F_step_of) (FD : FunD K "stands_of" "stands_of" (defArgs (top 29)) (defBody (top 29)) (defScope (top 29)) [] [] fa fd) (hm : mg "stands_of" = some (.ref fa)) (hb : Binds K fd ["rule"] []) : Fn P w K mg base "stands_of" 2 1 F_stands_of := fn_ok FD sc_stands_of hm hb rfl rfl fun cdv A outer s H E hr tk => w_stands_of FS G_step_of hr tk
/-! begins_of -/
theorem sc_begins_of : FnScope ["rule", "stand", "text"] ["rule"] (defScope (top 38)) := ⟨rfl, rfl, rfl, by decide +kernel, rfl, by decide +kernel, by decide +kernel⟩
theorem w_begins_of {P : Program} {w : World} {K : PySem.W.Frag} {mg : Str → Option Value} {base : Heap} (FS : Facts K mg) (G_stands_of : Fn P w K mg base "stands_of" 2 1 F_stands_of) {fa : Addr} {cdv : Value} {A : Around} {outer : List PySem.Env} {s : Shared} {H : Hp} {E : XK} (hr : Room 2 (A.deeper (envOfC "begins_of" (defScope (top 38)) s.heap.objs.size fa cdv))) (tk : Takes (cxOf (L2.CX P w) P w K mg base ["rule", "stand", "text"] "begins_of" (defScope (top 38)) fa cdv A outer s H E) (fun cls d _ H' => E cls d H')) : PSsM (cxOf (L2.CX P w) P w K mg base ["rule", "stand", "text"] "begins_of" (defScope (top 38)) fa cdv A outer s H E) (fun cls d _ H' => E cls d H') (defBody (top 38)) m_begins_of := by
  have sc := sc_begins_of
  exact pssm_one (psm_ret (pm_give (pmo_dc hr.units (pim_itms (pm_call G_stands_of hr tk (pma_cons (pm_var 0) (pma_nil)) (cons_len nil_len))) (fun _ _ _ _ _ => pgm_tup (pgsm_cons (pgm_name 1 sc.nd) (pgsm_cons (pgm_name 2 sc.nd) (pgsm_nil)))) (fun _ _ _ _ _ => pmts_one (pmt_eq hr.units (pm_toRef (pm_ix hr.units (pm_ref 1) (pm_toRef (pm_int)))) (pm_toRef (pm_int)))) (fun _ _ _ _ _ => pm_var 1) (fun _ _ _ _ _ => pm_var 2) rfl sc.nd [("stand", 1), ("text", 2)])))
theorem f_begins_of {P : Program} {w : World} {K : PySem.W.Frag} {mg : Str → Option Value} {base : Heap} {fa : Addr} {fd : FuncData} (FS : Facts K mg) (G_stands_of : Fn P w K mg base "stands_of" 2 1 F_stands_of) (FD : FunD K "begins_of" "begins_of" (defArgs (top 38)) (defBody (top 38)) (defScope (top 38)) [] [] fa fd) (hm : mg "begins_of" = some (.ref fa)) (hb : Binds K fd ["rule"] []) : Fn P w K mg base "begins_of" 3 1 F_begins_of := fn_ok FD sc_begins_of hm hb rfl rfl fun cdv A outer s H E hr tk => w_begins_of FS G_stands_of hr tk
/-! is_before -/
theorem sc_is_before : FnScope ["one", "other"] ["one", "other"] (defScope (top 39)) := ⟨rfl, rfl, rfl, by decide +kernel, rfl, by decide +kernel, by decide +kernel⟩
theorem w_is_before {P : Program} {w : World} {K : PySem.W.Frag} {mg : Str → Option Value} {base : Heap} (FS : Facts K mg) {fa : Addr} {cdv : Value} {A : Around} {outer : List PySem.Env} {s : Shared} {H : Hp} {E : XK} (hr : Room 0 (A.deeper (envOfC "is_before" (defScope (top 39)) s.heap.objs.size fa cdv))) (tk : Takes (cxOf (L2.CX P w) P w K mg base ["one", "other"] "is_before" (defScope (top 39)) fa cdv A outer s H E) (fun cls d _ H' => E cls d H')) : PSsM (cxOf (L2.CX P w) P w K mg base ["one", "other"] "is_before" (defScope (top 39)) fa cdv A outer s H E) (fun cls d _ H' => E cls d H') (defBody (top 39)) m_is_before := by
  have sc := sc_is_before
  exact pssm_one (psm_ret (pm_lt hr.units (pm_toRef (pm_tup (pma_cons (pm_len FS.b_len (pm_ref 0)) (pma_cons (pm_var 0) (pma_nil))))) (pm_toRef (pm_tup (pma_cons (pm_len FS.b_len (pm_ref 1)) (pma_cons (pm_var 1) (pma_nil)))))))
theorem f_is_before {P : Program} {w : World} {K : PySem.W.Frag} {mg : Str → Option Value} {base : Heap} {fa : Addr} {fd : FuncData} (FS : Facts K mg) (FD : FunD K "is_before" "is_before" (defArgs (top 39)) (defBody (top 39)) (defScope (top 39)) [] [] fa fd) (hm : mg "is_before" = some (.ref fa)) (hb : Binds K fd ["one", "other"] []) : Fn P w K mg base "is_before" 1 2 F_is_before := fn_ok FD sc_is_before hm hb rfl rfl fun cdv A outer s H E hr tk => w_is_before FS hr tk
/-! grown_on -/
theorem sc_grown_on : FnScope ["rule", "layer", "later", "ended", "stand", "text", "sign", "more", "there", "does"] ["rule", "layer"] (defScope (top 40)) := ⟨rfl, rfl, rfl, by decide +kernel, rfl, by decide +kernel, by decide +kernel⟩
theorem w_grown_on {P : Program} {w : World} {K : PySem.W.Frag} {mg : Str → Option Value} {base : Heap} (FS : Facts K mg) (G_is_before : Fn P w K mg base "is_before" 1 2 F_is_before) (G_step_of : Fn P w K mg base "step_of" 1 3 F_step_of) {fa : Addr} {cdv : Value} {A : Around} {outer : List PySem.Env} {s : Shared} {H : Hp} {E : XK} (hr : Room 1 (A.deeper (envOfC "grown_on" (defScope (top 40)) s.heap.objs.size fa cdv))) (tk : Takes (cxOf (L2.CX P w) P w K mg base ["rule", "layer", "later", "ended", "stand", "text", "sign", "more", "there", "does"] "grown_on" (defScope (top 40)) fa cdv A outer s H E) (fun cls d _ H' => E cls d H')) : PSsM (cxOf (L2.CX P w) P w K mg base ["rule", "layer", "later", "ended", "stand", "text", "sign", "more", "there", "does"] "grown_on" (defScope (top 40)) fa cdv A outer s H E) (fun cls d _ H' => E cls d H') (defBody (top 40)) m_grown_on := by
  have sc := sc_grown_on
  exact pssm_cons (psm_par2 2 3 (pml_own (pmo_dict0) (pml_val (pm_non) (pml_nil))) sc.nd)
      (pssm_cons (psm_for PassesOwn.leaving rfl (pim_itms (pm_var 1)) (pgm_tup (pgsm_cons (pgm_name 4 sc.nd) (pgsm_cons (pgm_name 5 sc.nd) (pgsm_nil)))) (gTup_quiet (gsCons_quiet (gN_quiet 4) (gsCons_quiet (gN_quiet 5) (gsNil_quiet))))
      (pssm_one (psm_for PassesOwn.leaving rfl (pim_range1 FS.b_range (pma_cons (pm_fld 0 FS.cl FS.na_many rfl (pm_ref 0)) (pma_nil))) (pgm_name 6 sc.nd) (gN_quiet 6)
      (pssm_cons (psm_asg (pm_call G_step_of hr tk (pma_cons (pm_var 0) (pma_cons (pm_var 4) (pma_cons (pm_var 6) (pma_nil)))) (cons_len (cons_len (cons_len nil_len)))) (pgm_tup (pgsm_cons (pgm_name 8 sc.nd) (pgsm_cons (pgm_name 9 sc.nd) (pgsm_nil)))) (gTup_quiet (gsCons_quiet (gN_quiet 8) (gsCons_quiet (gN_quiet 9) (gsNil_quiet)))))
      (pssm_cons (psm_set 7 (pm_tup (pma_star (pm_ref 5) (pma_cons (pm_var 6) (pma_nil)))) sc.nd)
      (pssm_cons (psm_if (pmt_w (pmw_and (pmt_val (pm_var 9)) (pmw_and1 (pmt_w (pmw_or (pmt_isN (pm_ref 3)) (pmw_or1 (pmt_val (pm_call G_is_before hr tk (pma_cons (pm_var 7) (pma_cons (pm_var 3) (pma_nil))) (cons_len (cons_len nil_len))))))))))
      (pssm_one (psm_set 3 (pm_var 7) sc.nd))
      (pssm_nil))
      (pssm_one (psm_if (pmt_w (pmw_and (pmt_not (pmt_val (pm_var 9))) (pmw_and1 (pmt_w (pmw_or (pmt_notin (u65 hr) (pm_ref 8) (pm_ref 2)) (pmw_or1 (pmt_val (pm_call G_is_before hr tk (pma_cons (pm_var 7) (pma_cons (pm_ix hr.units (pm_ref 2) (pm_ref 8)) (pma_nil))) (cons_len (cons_len nil_len))))))))))
      (pssm_one (psm_put 2 hr.units (pm_var 8) (pm_var 7)))
      (pssm_nil)))))))))
      (pssm_one (psm_ret (pm_tup (pma_cons (pm_var 2) (pma_cons (pm_var 3) (pma_nil)))))))
theorem f_grown_on {P : Program} {w : World} {K : PySem.W.Frag} {mg : Str → Option Value} {base : Heap} {fa : Addr} {fd : FuncData} (FS : Facts K mg) (G_is_before : Fn P w K mg base "is_before" 1 2 F_is_before) (G_step_of : Fn P w K mg base "step_of" 1 3 F_step_of) (FD : FunD K "grown_on" "grown_on" (defArgs (top 40)) (defBody (top 40)) (defScope (top 40)) [] [] fa fd) (hm : mg "grown_on" = some (.ref fa)) (hb : Binds K fd ["rule", "layer"] []) : Fn P w K mg base "grown_on" 2 2 F_grown_on := fn_ok FD sc_grown_on hm hb rfl rfl fun cdv A outer s H E hr tk => w_grown_on FS G_is_before G_step_of hr tk
/-! longest_of -/
theorem sc_longest_of : FnScope ["rule", "bound", "layer", "best", "length", "ended"] ["rule"] (defScope (top 41)) := ⟨rfl, rfl, rfl, by decide +kernel, rfl, by decide +kernel, by decide +kernel⟩
theorem w_longest_of {P : Program} {w : World} {K : PySem.W.Frag} {mg : Str → Option Value} {base : Heap} (FS : Facts K mg) (G_begins_of : Fn P w K mg base "begins_of" 3 1 F_begins_of) (G_grown_on : Fn P w K mg base "grown_on" 2 2 F_grown_on) (G_stands_of : Fn P w K mg base "stands_of" 2 1 F_stands_of) {fa : Addr} {cdv : Value} {A : Around} {outer : List PySem.Env} {s : Shared} {H : Hp} {E : XK} (hr : Room 3 (A.deeper (envOfC "longest_of" (defScope (top 41)) s.heap.objs.size fa cdv))) (tk : Takes (cxOf (L2.CX P w) P w K mg base ["rule", "bound", "layer", "best", "length", "ended"] "longest_of" (defScope (top 41)) fa cdv A outer s H E) (fun cls d _ H' => E cls d H')) : PSsM (cxOf (L2.CX P w) P w K mg base ["rule", "bound", "layer", "best", "length", "ended"] "longest_of" (defScope (top 41)) fa cdv A outer s H E) (fun cls d _ H' => E cls d H') (defBody (top 41)) m_longest_of := by
  have sc := sc_longest_of
  exact pssm_cons (psm_par3 2 3 4 (pml_val (pm_call G_begins_of hr tk (pma_cons (pm_var 0) (pma_nil)) (cons_len nil_len)) (pml_val (pm_non) (pml_val (pm_int) (pml_nil)))) sc.nd)
      (pssm_cons (psm_set 1 (pm_add (pm_toRef (pm_fld 3 FS.cl FS.na_low rfl (pm_ref 0))) (pm_toRef (pm_len FS.b_len (pm_toRef (pm_call G_stands_of hr tk (pma_cons (pm_var 0) (pma_nil)) (cons_len nil_len)))))) sc.nd)
      (pssm_cons (psm_while PassesOwn.leaving (pmt_noneNe hr.units (pm_ref 2) (pm_toRef (pm_give (pmo_dict0))))
      (pssm_cons (psm_asg (pm_call G_grown_on hr tk (pma_cons (pm_var 0) (pma_cons (pm_var 2) (pma_nil))) (cons_len (cons_len nil_len))) (pgm_tup (pgsm_cons (pgm_name 2 sc.nd) (pgsm_cons (pgm_name 5 sc.nd) (pgsm_nil)))) (gTup_quiet (gsCons_quiet (gN_quiet 2) (gsCons_quiet (gN_quiet 5) (gsNil_quiet)))))
      (pssm_cons (psm_augI 4 ip_add (pm_int) sc.nd)
      (pssm_cons (psm_if (pmt_notN (pm_ref 5))
      (pssm_one (psm_set 3 (pm_tup (pma_cons (pm_var 4) (pma_cons (pm_var 5) (pma_nil)))) sc.nd))
      (pssm_nil))
      (pssm_one (psm_if (pmt_gt hr.units (pm_ref 4) (pm_ref 1))
      (pssm_one (psm_ret (pm_non)))
      (pssm_nil)))))))
      (pssm_one (psm_ret (pm_var 3)))))
theorem f_longest_of {P : Program} {w : World} {K : PySem.W.Frag} {mg : Str → Option Value} {base : Heap} {fa : Addr} {fd : FuncData} (FS : Facts K mg) (G_begins_of : Fn P w K mg base "begins_of" 3 1 F_begins_of) (G_grown_on : Fn P w K mg base "grown_on" 2 2 F_grown_on) (G_stands_of : Fn P w K mg base "stands_of" 2 1 F_stands_of) (FD : FunD K "longest_of" "longest_of" (defArgs (top 41)) (defBody (top 41)) (defScope (top 41)) [] [] fa fd) (hm : mg "longest_of" = some (.ref fa)) (hb : Binds K fd ["rule"] []) : Fn P w K mg base "longest_of" 4 1 F_longest_of := fn_ok FD sc_longest_of hm hb rfl rfl fun cdv A outer s H E hr tk => w_longest_of FS G_begins_of G_grown_on G_stands_of hr tk
/-! is_short -/
theorem sc_is_short : FnScope ["rule", "words", "goal", "told"] ["rule", "words", "goal"] (defScope (top 51)) := ⟨rfl, rfl, rfl, by decide +kernel, rfl, by decide +kernel, by decide +kernel⟩
theorem w_is_short {P : Program} {w : World} {K : PySem.W.Frag} {mg : Str → Option Value} {base : Heap} (FS : Facts K mg) (G_Rule : MkF P w K mg base 3 F_Rule) (G_longest_of : Fn P w K mg base "longest_of" 4 1 F_longest_of) {fa : Addr} {cdv : Value} {A : Around} {outer : List PySem.Env} {s : Shared} {H : Hp} {E : XK} (hr : Room 4 (A.deeper (envOfC "is_short" (defScope (top 51)) s.heap.objs.size fa cdv))) (tk : Takes (cxOf (L2.CX P w) P w K mg base ["rule", "words", "goal", "told"] "is_short" (defScope (top 51)) fa cdv A outer s H E) (fun cls d _ H' => E cls d H')) : PSsM (cxOf (L2.CX P w) P w K mg base ["rule", "words", "goal", "told"] "is_short" (defScope (top 51)) fa cdv A outer s H E) (fun cls d _ H' => E cls d H') (defBody (top 51)) m_is_short := by
  have sc := sc_is_short
  exact pssm_cons (psm_set 3 (pm_call G_longest_of hr tk (pma_cons (pm_make G_Rule hr tk (pma_cons (pm_fld 0 FS.cl FS.na_many rfl (pm_ref 0)) (pma_cons (pm_fld 1 FS.cl FS.na_wide rfl (pm_ref 0)) (pma_cons (pm_tupleOf FS.b_tuple (by decide +kernel) (pm_toRef (pm_give (pmo_sortN hr.units FS.b_sorted (pm_toRef (pm_give (pmo_lst (pma_star (pm_toRef (pm_fld 2 FS.cl FS.na_rows rfl (pm_ref 0))) (pma_star (pm_ref 1) (pma_nil)))))))))) (pma_cons (pm_fld 3 FS.cl FS.na_low rfl (pm_ref 0)) (pma_cons (pm_fld 4 FS.cl FS.na_high rfl (pm_ref 0)) (pma_nil)))))) (cons_len (cons_len (cons_len (cons_len (cons_len nil_len))))) (fun _ _ _ _ h => initM_ret h)) (pma_nil)) (cons_len nil_len)) sc.nd)
      (pssm_one (psm_ret (pm_and (pm_notN (pm_ref 3)) (pm_one (pm_le hr.units (pm_toRef (pm_ix hr.units (pm_ref 3) (pm_toRef (pm_int)))) (pm_ref 2))))))
theorem f_is_short {P : Program} {w : World} {K : PySem.W.Frag} {mg : Str → Option Value} {base : Heap} {fa : Addr} {fd : FuncData} (FS : Facts K mg) (G_Rule : MkF P w K mg base 3 F_Rule) (G_longest_of : Fn P w K mg base "longest_of" 4 1 F_longest_of) (FD : FunD K "is_short" "is_short" (defArgs (top 51)) (defBody (top 51)) (defScope (top 51)) [] [] fa fd) (hm : mg "is_short" = some (.ref fa)) (hb : Binds K fd ["rule", "words", "goal"] []) : Fn P w K mg base "is_short" 5 3 F_is_short := fn_ok FD sc_is_short hm hb rfl rfl fun cdv A outer s H E hr tk => w_is_short FS G_Rule G_longest_of hr tk
/-! sets_of -/
theorem sc_sets_of : FnScope ["things", "size", "found", "at", "thing", "rest"] ["things", "size"] (defScope (top 50)) := ⟨rfl, rfl, rfl, by decide +kernel, rfl, by decide +kernel, by decide +kernel⟩
theorem f_sets_of_0 {P : Program} {w : World} {K : PySem.W.Frag} {mg : Str → Option Value} {base : Heap} {fa : Addr} {fd : FuncData} (FS : Facts K mg) (FD : FunD K "sets_of" "sets_of" (defArgs (top 50)) (defBody (top 50)) (defScope (top 50)) [] [] fa fd) (hm : mg "sets_of" = some (.ref fa)) (hb : Binds K fd ["things", "size"] []) : Fn P w K mg base "sets_of" 1 2 (R_sets_of 0) := fn_ok (k := 0) FD sc_sets_of hm hb rfl rfl fun cdv A outer s H E hr tk => pssm_dead
theorem w_sets_of_1 {P : Program} {w : World} {K : PySem.W.Frag} {mg : Str → Option Value} {base : Heap} (FS : Facts K mg) (G_sets_of : Fn P w K mg base "sets_of" 1 2 (R_sets_of 0)) {fa : Addr} {cdv : Value} {A : Around} {outer : List PySem.Env} {s : Shared} {H : Hp} {E : XK} (hr : Room 1 (A.deeper (envOfC "sets_of" (defScope (top 50)) s.heap.objs.size fa cdv))) (tk : Takes (cxOf (L2.CX P w) P w K mg base ["things", "size", "found", "at", "thing", "rest"] "sets_of" (defScope (top 50)) fa cdv A outer s H E) (fun cls d _ H' => E cls d H')) : PSsM (cxOf (L2.CX P w) P w K mg base ["things", "size", "found", "at", "thing", "rest"] "sets_of" (defScope (top 50)) fa cdv A outer s H E) (fun cls d _ H' => E cls d H') (defBody (top 50)) (m_sets_of (R_sets_of 0)) := by
  have sc := sc_sets_of
  exact pssm_cons (psm_if (pmt_eq hr.units (pm_ref 1) (pm_toRef (pm_int)))
      (pssm_one (psm_ret (pm_give (pmo_lst (pma_cons (pm_tup (pma_nil)) (pma_nil))))))
      (pssm_nil))
      (pssm_cons (psm_setO 2 (pmo_lst (pma_nil)) sc.nd)
      (pssm_cons (psm_for PassesOwn.leaving rfl (pim_enum FS.b_enumerate (pma_cons (pm_var 0) (pma_nil))) (pgm_tup (pgsm_cons (pgm_name 3 sc.nd) (pgsm_cons (pgm_name 4 sc.nd) (pgsm_nil)))) (gTup_quiet (gsCons_quiet (gN_quiet 3) (gsCons_quiet (gN_quiet 4) (gsNil_quiet))))
      (pssm_one (psm_extend 2 (pm_give (pmo_lc (pim_items (pm_call G_sets_of hr tk (pma_cons (pm_slice (pm_ref 0) (pmp_some (pm_add (pm_ref 3) (pm_toRef (pm_int)))) (pmp_none)) (pma_cons (pm_sub (pm_ref 1) (pm_toRef (pm_int))) (pma_nil))) (cons_len (cons_len nil_len)))) (fun _ _ _ _ _ => pgm_name 5 sc.nd) (fun _ _ _ _ _ => pmts_nil) (fun _ _ _ _ _ => pm_tup (pma_cons (pm_var 4) (pma_star (pm_ref 5) (pma_nil)))) rfl sc.nd [("rest", 5)])))))
      (pssm_one (psm_ret (pm_var 2)))))
theorem f_sets_of_1 {P : Program} {w : World} {K : PySem.W.Frag} {mg : Str → Option Value} {base : Heap} {fa : Addr} {fd : FuncData} (FS : Facts K mg) (FD : FunD K "sets_of" "sets_of" (defArgs (top 50)) (defBody (top 50)) (defScope (top 50)) [] [] fa fd) (hm : mg "sets_of" = some (.ref fa)) (hb : Binds K fd ["things", "size"] []) : Fn P w K mg base "sets_of" 2 2 (R_sets_of 1) := fn_ok FD sc_sets_of hm hb rfl rfl fun cdv A outer s H E hr tk => w_sets_of_1 FS (f_sets_of_0 FS FD hm hb) hr tk
theorem w_sets_of_2 {P : Program} {w : World} {K : PySem.W.Frag} {mg : Str → Option Value} {base : Heap} (FS : Facts K mg) (G_sets_of : Fn P w K mg base "sets_of" 2 2 (R_sets_of 1)) {fa : Addr} {cdv : Value} {A : Around} {outer : List PySem.Env} {s : Shared} {H : Hp} {E : XK} (hr : Room 2 (A.deeper (envOfC "sets_of" (defScope (top 50)) s.heap.objs.size fa cdv))) (tk : Takes (cxOf (L2.CX P w) P w K mg base ["things", "size", "found", "at", "thing", "rest"] "sets_of" (defScope (top 50)) fa cdv A outer s H E) (fun cls d _ H' => E cls d H')) : PSsM (cxOf (L2.CX P w) P w K mg base ["things", "size", "found", "at", "thing", "rest"] "sets_of" (defScope (top 50)) fa cdv A outer s H E) (fun cls d _ H' => E cls d H') (defBody (top 50)) (m_sets_of (R_sets_of 1)) := by
  have sc := sc_sets_of
  exact pssm_cons (psm_if (pmt_eq hr.units (pm_ref 1) (pm_toRef (pm_int)))
      (pssm_one (psm_ret (pm_give (pmo_lst (pma_cons (pm_tup (pma_nil)) (pma_nil))))))
      (pssm_nil))
      (pssm_cons (psm_setO 2 (pmo_lst (pma_nil)) sc.nd)
      (pssm_cons (psm_for PassesOwn.leaving rfl (pim_enum FS.b_enumerate (pma_cons (pm_var 0) (pma_nil))) (pgm_tup (pgsm_cons (pgm_name 3 sc.nd) (pgsm_cons (pgm_name 4 sc.nd) (pgsm_nil)))) (gTup_quiet (gsCons_quiet (gN_quiet 3) (gsCons_quiet (gN_quiet 4) (gsNil_quiet))))
      (pssm_one (psm_extend 2 (pm_give (pmo_lc (pim_items (pm_call G_sets_of hr tk (pma_cons (pm_slice (pm_ref 0) (pmp_some (pm_add (pm_ref 3) (pm_toRef (pm_int)))) (pmp_none)) (pma_cons (pm_sub (pm_ref 1) (pm_toRef (pm_int))) (pma_nil))) (cons_len (cons_len nil_len)))) (fun _ _ _ _ _ => pgm_name 5 sc.nd) (fun _ _ _ _ _ => pmts_nil) (fun _ _ _ _ _ => pm_tup (pma_cons (pm_var 4) (pma_star (pm_ref 5) (pma_nil)))) rfl sc.nd [("rest", 5)])))))
      (pssm_one (psm_ret (pm_var 2)))))
theorem f_sets_of_2 {P : Program} {w : World} {K : PySem.W.Frag} {mg : Str → Option Value} {base : Heap} {fa : Addr} {fd : FuncData} (FS : Facts K mg) (FD : FunD K "sets_of" "sets_of" (defArgs (top 50)) (defBody (top 50)) (defScope (top 50)) [] [] fa fd) (hm : mg "sets_of" = some (.ref fa)) (hb : Binds K fd ["things", "size"] []) : Fn P w K mg base "sets_of" 3 2 (R_sets_of 2) := fn_ok FD sc_sets_of hm hb rfl rfl fun cdv A outer s H E hr tk => w_sets_of_2 FS (f_sets_of_1 FS FD hm hb) hr tk
theorem w_sets_of_3 {P : Program} {w : World} {K : PySem.W.Frag} {mg : Str → Option Value} {base : Heap} (FS : Facts K mg) (G_sets_of : Fn P w K mg base "sets_of" 3 2 (R_sets_of 2)) {fa : Addr} {cdv : Value} {A : Around} {outer : List PySem.Env} {s : Shared} {H : Hp} {E : XK} (hr : Room 3 (A.deeper (envOfC "sets_of" (defScope (top 50)) s.heap.objs.size fa cdv))) (tk : Takes (cxOf (L2.CX P w) P w K mg base ["things", "size", "found", "at", "thing", "rest"] "sets_of" (defScope (top 50)) fa cdv A outer s H E) (fun cls d _ H' => E cls d H')) : PSsM (cxOf (L2.CX P w) P w K mg base ["things", "size", "found", "at", "thing", "rest"] "sets_of" (defScope (top 50)) fa cdv A outer s H E) (fun cls d _ H' => E cls d H') (defBody (top 50)) (m_sets_of (R_sets_of 2)) := by
  have sc := sc_sets_of
  exact pssm_cons (psm_if (pmt_eq hr.units (pm_ref 1) (pm_toRef (pm_int)))
      (pssm_one (psm_ret (pm_give (pmo_lst (pma_cons (pm_tup (pma_nil)) (pma_nil))))))
      (pssm_nil))
      (pssm_cons (psm_setO 2 (pmo_lst (pma_nil)) sc.nd)
      (pssm_cons (psm_for PassesOwn.leaving rfl (pim_enum FS.b_enumerate (pma_cons (pm_var 0) (pma_nil))) (pgm_tup (pgsm_cons (pgm_name 3 sc.nd) (pgsm_cons (pgm_name 4 sc.nd) (pgsm_nil)))) (gTup_quiet (gsCons_quiet (gN_quiet 3) (gsCons_quiet (gN_quiet 4) (gsNil_quiet))))
      (pssm_one (psm_extend 2 (pm_give (pmo_lc (pim_items (pm_call G_sets_of hr tk (pma_cons (pm_slice (pm_ref 0) (pmp_some (pm_add (pm_ref 3) (pm_toRef (pm_int)))) (pmp_none)) (pma_cons (pm_sub (pm_ref 1) (pm_toRef (pm_int))) (pma_nil))) (cons_len (cons_len nil_len)))) (fun _ _ _ _ _ => pgm_name 5 sc.nd) (fun _ _ _ _ _ => pmts_nil) (fun _ _ _ _ _ => pm_tup (pma_cons (pm_var 4) (pma_star (pm_ref 5) (pma_nil)))) rfl sc.nd [("rest", 5)])))))
      (pssm_one (psm_ret (pm_var 2)))))
theorem f_sets_of_3 {P : Program} {w : World} {K : PySem.W.Frag} {mg : Str → Option Value} {base : Heap} {fa : Addr} {fd : FuncData} (FS : Facts K mg) (FD : FunD K "sets_of" "sets_of" (defArgs (top 50)) (defBody (top 50)) (defScope (top 50)) [] [] fa fd) (hm : mg "sets_of" = some (.ref fa)) (hb : Binds K fd ["things", "size"] []) : Fn P w K mg base "sets_of" 4 2 (R_sets_of 3) := fn_ok FD sc_sets_of hm hb rfl rfl fun cdv A outer s H E hr tk => w_sets_of_3 FS (f_sets_of_2 FS FD hm hb) hr tk
theorem w_sets_of_4 {P : Program} {w : World} {K : PySem.W.Frag} {mg : Str → Option Value} {base : Heap} (FS : Facts K mg) (G_sets_of : Fn P w K mg base "sets_of" 4 2 (R_sets_of 3)) {fa : Addr} {cdv : Value} {A : Around} {outer : List PySem.Env} {s : Shared} {H : Hp} {E : XK} (hr : Room 4 (A.deeper (envOfC "sets_of" (defScope (top 50)) s.heap.objs.size fa cdv))) (tk : Takes (cxOf (L2.CX P w) P w K mg base ["things", "size", "found", "at", "thing", "rest"] "sets_of" (defScope (top 50)) fa cdv A outer s H E) (fun cls d _ H' => E cls d H')) : PSsM (cxOf (L2.CX P w) P w K mg base ["things", "size", "found", "at", "thing", "rest"] "sets_of" (defScope (top 50)) fa cdv A outer s H E) (fun cls d _ H' => E cls d H') (defBody (top 50)) (m_sets_of (R_sets_of 3)) := by
  have sc := sc_sets_of
  exact pssm_cons (psm_if (pmt_eq hr.units (pm_ref 1) (pm_toRef (pm_int)))
      (pssm_one (psm_ret (pm_give (pmo_lst (pma_cons (pm_tup (pma_nil)) (pma_nil))))))
      (pssm_nil))
      (pssm_cons (psm_setO 2 (pmo_lst (pma_nil)) sc.nd)
      (pssm_cons (psm_for PassesOwn.leaving rfl (pim_enum FS.b_enumerate (pma_cons (pm_var 0) (pma_nil))) (pgm_tup (pgsm_cons (pgm_name 3 sc.nd) (pgsm_cons (pgm_name 4 sc.nd) (pgsm_nil)))) (gTup_quiet (gsCons_quiet (gN_quiet 3) (gsCons_quiet (gN_quiet 4) (gsNil_quiet))))
      (pssm_one (psm_extend 2 (pm_give (pmo_lc (pim_items (pm_call G_sets_of hr tk (pma_cons (pm_slice (pm_ref 0) (pmp_some (pm_add (pm_ref 3) (pm_toRef (pm_int)))) (pmp_none)) (pma_cons (pm_sub (pm_ref 1) (pm_toRef (pm_int))) (pma_nil))) (cons_len (cons_len nil_len)))) (fun _ _ _ _ _ => pgm_name 5 sc.nd) (fun _ _ _ _ _ => pmts_nil) (fun _ _ _ _ _ => pm_tup (pma_cons (pm_var 4) (pma_star (pm_ref 5) (pma_nil)))) rfl sc.nd [("rest", 5)])))))
      (pssm_one (psm_ret (pm_var 2)))))
theorem f_sets_of_4 {P : Program} {w : World} {K : PySem.W.Frag} {mg : Str → Option Value} {base : Heap} {fa : Addr} {fd : FuncData} (FS : Facts K mg) (FD : FunD K "sets_of" "sets_of" (defArgs (top 50)) (defBody (top 50)) (defScope (top 50)) [] [] fa fd) (hm : mg "sets_of" = some (.ref fa)) (hb : Binds K fd ["things", "size"] []) : Fn P w K mg base "sets_of" 5 2 (R_sets_of 4) := fn_ok FD sc_sets_of hm hb rfl rfl fun cdv A outer s H E hr tk => w_sets_of_4 FS (f_sets_of_3 FS FD hm hb) hr tk
theorem f_sets_of {P : Program} {w : World} {K : PySem.W.Frag} {mg : Str → Option Value} {base : Heap} {fa : Addr} {fd : FuncData} (FS : Facts K mg) (FD : FunD K "sets_of" "sets_of" (defArgs (top 50)) (defBody (top 50)) (defScope (top 50)) [] [] fa fd) (hm : mg "sets_of" = some (.ref fa)) (hb : Binds K fd ["things", "size"] []) : Fn P w K mg base "sets_of" 5 2 F_sets_of := f_sets_of_4 FS FD hm hb
/-! fewest_words -/
theorem sc_fewest_words : FnScope ["rule", "goal", "most", "others", "size", "found", "word", "words"] ["rule", "goal", "most"] (defScope (top 52)) := ⟨rfl, rfl, rfl, by decide +kernel, rfl, by decide +kernel, by decide +kernel⟩
theorem w_fewest_words {P : Program} {w : World} {K : PySem.W.Frag} {mg : Str → Option Value} {base : Heap} (FS : Facts K mg) (G_all_words : Fn P w K mg base "all_words" 1 2 F_all_words) (G_check_small : Fn P w K mg base "check_small" 2 2 F_check_small) (G_is_from : Fn P w K mg base "is_from" 1 3 F_is_from) (G_is_short : Fn P w K mg base "is_short" 5 3 F_is_short) (G_sets_of : Fn P w K mg base "sets_of" 5 2 F_sets_of) {fa : Addr} {cdv : Value} {A : Around} {outer : List PySem.Env} {s : Shared} {H : Hp} {E : XK} (hr : Room 5 (A.deeper (envOfC "fewest_words" (defScope (top 52)) s.heap.objs.size fa cdv))) (tk : Takes (cxOf (L2.CX P w) P w K mg base ["rule", "goal", "most", "others", "size", "found", "word", "words"] "fewest_words" (defScope (top 52)) fa cdv A outer s H E) (fun cls d _ H' => E cls d H')) : PSsM (cxOf (L2.CX P w) P w K mg base ["rule", "goal", "most", "others", "size", "found", "word", "words"] "fewest_words" (defScope (top 52)) fa cdv A outer s H E) (fun cls d _ H' => E cls d H') (defBody (top 52)) m_fewest_words := by
  have sc := sc_fewest_words
  exact pssm_cons (psm_expr (pm_call G_check_small hr tk (pma_cons (pm_fld 0 FS.cl FS.na_many rfl (pm_ref 0)) (pma_cons (pm_fld 1 FS.cl FS.na_wide rfl (pm_ref 0)) (pma_nil))) (cons_len (cons_len nil_len))))
      (pssm_cons (psm_if (pmt_w (pmw_or (pmt_not (pmt_val (pm_call G_is_from hr tk (pma_cons (pm_var 1) (pma_cons (pm_int) (pma_cons (pm_gint FS.c_MOST_GOAL) (pma_nil)))) (cons_len (cons_len (cons_len nil_len)))))) (pmw_or1 (pmt_not (pmt_val (pm_call G_is_from hr tk (pma_cons (pm_var 2) (pma_cons (pm_int) (pma_cons (pm_gint FS.c_MOST_MORE) (pma_nil)))) (cons_len (cons_len (cons_len nil_len)))))))))
      (pssm_one (psm_raise0 FS.e_BadNumber tk))
      (pssm_nil))
      (pssm_cons (psm_setLc 3 (pim_items (pm_call G_all_words hr tk (pma_cons (pm_fld 0 FS.cl FS.na_many rfl (pm_ref 0)) (pma_cons (pm_fld 1 FS.cl FS.na_wide rfl (pm_ref 0)) (pma_nil))) (cons_len (cons_len nil_len)))) (fun _ _ _ _ _ => pgm_name 6 sc.nd) (fun _ _ _ _ _ => pmts_one (pmt_notin (u65 hr) (pm_ref 6) (pm_toRef (pm_fld 2 FS.cl FS.na_rows rfl (pm_ref 0))))) (fun _ _ _ _ _ => pm_var 6) rfl sc.nd [("word", 6)])
      (pssm_cons (psm_for PassesOwn.leaving rfl (pim_range1 FS.b_range (pma_cons (pm_add (pm_ref 2) (pm_toRef (pm_int))) (pma_nil))) (pgm_name 4 sc.nd) (gN_quiet 4)
      (pssm_cons (psm_setLc 5 (pim_items (pm_call G_sets_of hr tk (pma_cons (pm_var 3) (pma_cons (pm_var 4) (pma_nil))) (cons_len (cons_len nil_len)))) (fun _ _ _ _ _ => pgm_name 7 sc.nd) (fun _ _ _ _ _ => pmts_one (pmt_val (pm_call G_is_short hr takes0 (pma_cons (pm_var 0) (pma_cons (pm_var 7) (pma_cons (pm_var 1) (pma_nil)))) (cons_len (cons_len (cons_len nil_len)))))) (fun _ _ _ _ _ => pm_var 7) rfl sc.nd [("words", 7)])
      (pssm_one (psm_if (pmt_ne hr.units (pm_ref 5) (pm_toRef (pm_give (pmo_lst (pma_nil)))))
      (pssm_one (psm_ret (pm_var 5)))
      (pssm_nil)))))
      (pssm_one (psm_ret (pm_give (pmo_lst (pma_nil))))))))
theorem f_fewest_words {P : Program} {w : World} {K : PySem.W.Frag} {mg : Str → Option Value} {base : Heap} {fa : Addr} {fd : FuncData} (FS : Facts K mg) (G_all_words : Fn P w K mg base "all_words" 1 2 F_all_words) (G_check_small : Fn P w K mg base "check_small" 2 2 F_check_small) (G_is_from : Fn P w K mg base "is_from" 1 3 F_is_from) (G_is_short : Fn P w K mg base "is_short" 5 3 F_is_short) (G_sets_of : Fn P w K mg base "sets_of" 5 2 F_sets_of) (FD : FunD K "fewest_words" "fewest_words" (defArgs (top 52)) (defBody (top 52)) (defScope (top 52)) [] [] fa fd) (hm : mg "fewest_words" = some (.ref fa)) (hb : Binds K fd ["rule", "goal", "most"] []) : Fn P w K mg base "fewest_words" 6 3 F_fewest_words := fn_ok FD sc_fewest_words hm hb rfl rfl fun cdv A outer s H E hr tk => w_fewest_words FS G_all_words G_check_small G_is_from G_is_short G_sets_of hr tk
/-! check_places -/
theorem sc_check_places : FnScope ["value"] ["value"] (defScope (top 35)) := ⟨rfl, rfl, rfl, by decide +kernel, rfl, by decide +kernel, by decide +kernel⟩
theorem w_check_places {P : Program} {w : World} {K : PySem.W.Frag} {mg : Str → Option Value} {base : Heap} (FS : Facts K mg) (G_is_from : Fn P w K mg base "is_from" 1 3 F_is_from) {fa : Addr} {cdv : Value} {A : Around} {outer : List PySem.Env} {s : Shared} {H : Hp} {E : XK} (hr : Room 1 (A.deeper (envOfC "check_places" (defScope (top 35)) s.heap.objs.size fa cdv))) (tk : Takes (cxOf (L2.CX P w) P w K mg base ["value"] "check_places" (defScope (top 35)) fa cdv A outer s H E) (fun cls d _ H' => E cls d H')) : PSsM (cxOf (L2.CX P w) P w K mg base ["value"] "check_places" (defScope (top 35)) fa cdv A outer s H E) (fun cls d _ H' => E cls d H') (defBody (top 35)) m_check_places := by
  have sc := sc_check_places
  exact pssm_one (psm_if (pmt_not (pmt_val (pm_call G_is_from hr tk (pma_cons (pm_var 0) (pma_cons (pm_int) (pma_cons (pm_gint FS.c_MOST_PLACES) (pma_nil)))) (cons_len (cons_len (cons_len nil_len))))))
      (pssm_one (psm_raise0 FS.e_BadNumber tk))
      (pssm_nil))
theorem f_check_places {P : Program} {w : World} {K : PySem.W.Frag} {mg : Str → Option Value} {base : Heap} {fa : Addr} {fd : FuncData} (FS : Facts K mg) (G_is_from : Fn P w K mg base "is_from" 1 3 F_is_from) (FD : FunD K "check_places" "check_places" (defArgs (top 35)) (defBody (top 35)) (defScope (top 35)) [] [] fa fd) (hm : mg "check_places" = some (.ref fa)) (hb : Binds K fd ["value"] []) : Fn P w K mg base "check_places" 2 1 F_check_places := fn_ok FD sc_check_places hm hb rfl rfl fun cdv A outer s H E hr tk => w_check_places FS G_is_from hr tk
/-! counts_of -/
theorem sc_counts_of : FnScope ["rule", "places", "turn", "layer", "found", "later", "ended", "stand", "many", "sign", "there", "does"] ["rule", "places"] (defScope (top 34)) := ⟨rfl, rfl, rfl, by decide +kernel, rfl, by decide +kernel, by decide +kernel⟩
theorem w_counts_of {P : Program} {w : World} {K : PySem.W.Frag} {mg : Str → Option Value} {base : Heap} (FS : Facts K mg) (G_step_of : Fn P w K mg base "step_of" 1 3 F_step_of) {fa : Addr} {cdv : Value} {A : Around} {outer : List PySem.Env} {s : Shared} {H : Hp} {E : XK} (hr : Room 1 (A.deeper (envOfC "counts_of" (defScope (top 34)) s.heap.objs.size fa cdv))) (tk : Takes (cxOf (L2.CX P w) P w K mg base ["rule", "places", "turn", "layer", "found", "later", "ended", "stand", "many", "sign", "there", "does"] "counts_of" (defScope (top 34)) fa cdv A outer s H E) (fun cls d _ H' => E cls d H')) : PSsM (cxOf (L2.CX P w) P w K mg base ["rule", "places", "turn", "layer", "found", "later", "ended", "stand", "many", "sign", "there", "does"] "counts_of" (defScope (top 34)) fa cdv A outer s H E) (fun cls d _ H' => E cls d H') (defBody (top 34)) m_counts_of := by
  have sc := sc_counts_of
  exact pssm_cons (psm_par2 3 4 (pml_val (pm_give (pmo_disp1 hr.units (pm_gtup FS.g_BEGIN FS.r_BEGIN) (pm_int))) (pml_own (pmo_lst (pma_cons (pm_int) (pma_nil))) (pml_nil))) sc.nd)
      (pssm_cons (psm_for PassesOwn.leaving rfl (pim_range1 FS.b_range (pma_cons (pm_var 1) (pma_nil))) (pgm_name 2 sc.nd) (gN_quiet 2)
      (pssm_cons (psm_par2 5 6 (pml_own (pmo_dict0) (pml_val (pm_int) (pml_nil))) sc.nd)
      (pssm_cons (psm_for PassesOwn.leaving rfl (pim_itms (pm_var 3)) (pgm_tup (pgsm_cons (pgm_name 7 sc.nd) (pgsm_cons (pgm_name 8 sc.nd) (pgsm_nil)))) (gTup_quiet (gsCons_quiet (gN_quiet 7) (gsCons_quiet (gN_quiet 8) (gsNil_quiet))))
      (pssm_one (psm_for PassesOwn.leaving rfl (pim_range1 FS.b_range (pma_cons (pm_fld 0 FS.cl FS.na_many rfl (pm_ref 0)) (pma_nil))) (pgm_name 9 sc.nd) (gN_quiet 9)
      (pssm_cons (psm_asg (pm_call G_step_of hr tk (pma_cons (pm_var 0) (pma_cons (pm_var 7) (pma_cons (pm_var 9) (pma_nil)))) (cons_len (cons_len (cons_len nil_len)))) (pgm_tup (pgsm_cons (pgm_name 10 sc.nd) (pgsm_cons (pgm_name 11 sc.nd) (pgsm_nil)))) (gTup_quiet (gsCons_quiet (gN_quiet 10) (gsCons_quiet (gN_quiet 11) (gsNil_quiet)))))
      (pssm_one (psm_if (pmt_val (pm_var 11))
      (pssm_one (psm_augI 6 ip_add (pm_var 8) sc.nd))
      (pssm_one (psm_put 5 hr.units (pm_var 10) (pm_add (pm_toRef (pm_get hr.units (pm_ref 5) (pm_var 10) (pm_int))) (pm_ref 8))))))))))
      (pssm_cons (psm_append 4 (pm_var 6))
      (pssm_one (psm_set 3 (pm_var 5) sc.nd))))))
      (pssm_one (psm_ret (pm_var 4))))
theorem f_counts_of {P : Program} {w : World} {K : PySem.W.Frag} {mg : Str → Option Value} {base : Heap} {fa : Addr} {fd : FuncData} (FS : Facts K mg) (G_step_of : Fn P w K mg base "step_of" 1 3 F_step_of) (FD : FunD K "counts_of" "counts_of" (defArgs (top 34)) (defBody (top 34)) (defScope (top 34)) [] [] fa fd) (hm : mg "counts_of" = some (.ref fa)) (hb : Binds K fd ["rule", "places"] []) : Fn P w K mg base "counts_of" 2 2 F_counts_of := fn_ok FD sc_counts_of hm hb rfl rfl fun cdv A outer s H E hr tk => w_counts_of FS G_step_of hr tk
/-! first_cuts -/
theorem sc_first_cuts : FnScope ["rule", "places"] ["rule", "places"] (defScope (top 36)) := ⟨rfl, rfl, rfl, by decide +kernel, rfl, by decide +kernel, by decide +kernel⟩
theorem w_first_cuts {P : Program} {w : World} {K : PySem.W.Frag} {mg : Str → Option Value} {base : Heap} (FS : Facts K mg) (G_check_places : Fn P w K mg base "check_places" 2 1 F_check_places) (G_counts_of : Fn P w K mg base "counts_of" 2 2 F_counts_of) {fa : Addr} {cdv : Value} {A : Around} {outer : List PySem.Env} {s : Shared} {H : Hp} {E : XK} (hr : Room 2 (A.deeper (envOfC "first_cuts" (defScope (top 36)) s.heap.objs.size fa cdv))) (tk : Takes (cxOf (L2.CX P w) P w K mg base ["rule", "places"] "first_cuts" (defScope (top 36)) fa cdv A outer s H E) (fun cls d _ H' => E cls d H')) : PSsM (cxOf (L2.CX P w) P w K mg base ["rule", "places"] "first_cuts" (defScope (top 36)) fa cdv A outer s H E) (fun cls d _ H' => E cls d H') (defBody (top 36)) m_first_cuts := by
  have sc := sc_first_cuts
  exact pssm_cons (psm_expr (pm_call G_check_places hr tk (pma_cons (pm_var 1) (pma_nil)) (cons_len nil_len)))
      (pssm_one (psm_ret (pm_call G_counts_of hr tk (pma_cons (pm_var 0) (pma_cons (pm_var 1) (pma_nil))) (cons_len (cons_len nil_len)))))
theorem f_first_cuts {P : Program} {w : World} {K : PySem.W.Frag} {mg : Str → Option Value} {base : Heap} {fa : Addr} {fd : FuncData} (FS : Facts K mg) (G_check_places : Fn P w K mg base "check_places" 2 1 F_check_places) (G_counts_of : Fn P w K mg base "counts_of" 2 2 F_counts_of) (FD : FunD K "first_cuts" "first_cuts" (defArgs (top 36)) (defBody (top 36)) (defScope (top 36)) [] [] fa fd) (hm : mg "first_cuts" = some (.ref fa)) (hb : Binds K fd ["rule", "places"] []) : Fn P w K mg base "first_cuts" 3 2 F_first_cuts := fn_ok FD sc_first_cuts hm hb rfl rfl fun cdv A outer s H E hr tk => w_first_cuts FS G_check_places G_counts_of hr tk
/-! is_seen -/
theorem sc_is_seen : FnScope ["rule", "value", "place"] ["rule", "value"] (defScope (top 63)) := ⟨rfl, rfl, rfl, by decide +kernel, rfl, by decide +kernel, by decide +kernel⟩
theorem w_is_seen {P : Program} {w : World} {K : PySem.W.Frag} {mg : Str → Option Value} {base : Heap} (FS : Facts K mg) (G_is_from : Fn P w K mg base "is_from" 1 3 F_is_from) (G_is_text : Fn P w K mg base "is_text" 3 2 F_is_text) {fa : Addr} {cdv : Value} {A : Around} {outer : List PySem.Env} {s : Shared} {H : Hp} {E : XK} (hr : Room 3 (A.deeper (envOfC "is_seen" (defScope (top 63)) s.heap.objs.size fa cdv))) (tk : Takes (cxOf (L2.CX P w) P w K mg base ["rule", "value", "place"] "is_seen" (defScope (top 63)) fa cdv A outer s H E) (fun cls d _ H' => E cls d H')) : PSsM (cxOf (L2.CX P w) P w K mg base ["rule", "value", "place"] "is_seen" (defScope (top 63)) fa cdv A outer s H E) (fun cls d _ H' => E cls d H') (defBody (top 63)) m_is_seen := by
  have sc := sc_is_seen
  exact pssm_cons (psm_if (pmt_w (pmw_or (pmt_not (pmt_val (pm_isi FS.b_isinstance (by decide +kernel) FS.b_tuple (by decide +kernel) FS.ri FS.ki_tuple (pm_ref 1)))) (pmw_or (pmt_ne hr.units (pm_toRef (pm_len FS.b_len (pm_ref 1))) (pm_toRef (pm_int))) (pmw_or1 (pmt_not (pmt_val (pm_call G_is_text hr tk (pma_cons (pm_var 0) (pma_cons (pm_ix hr.units (pm_ref 1) (pm_toRef (pm_int))) (pma_nil))) (cons_len (cons_len nil_len)))))))))
      (pssm_one (psm_ret (pm_bl)))
      (pssm_nil))
      (pssm_cons (psm_if (pmt_not (pmt_val (pm_isi FS.b_isinstance (by decide +kernel) FS.b_tuple (by decide +kernel) FS.ri FS.ki_tuple (pm_toRef (pm_ix hr.units (pm_ref 1) (pm_toRef (pm_int)))))))
      (pssm_one (psm_ret (pm_bl)))
      (pssm_nil))
      (pssm_cons (psm_if (pmt_not (pmt_val (pm_all FS.b_all (pm_toRef (pm_give (pmo_lc (pim_items (pm_ix hr.units (pm_ref 1) (pm_toRef (pm_int)))) (fun _ _ _ _ _ => pgm_name 2 sc.nd) (fun _ _ _ _ _ => pmts_nil) (fun _ _ _ _ _ => pm_call G_is_from hr takes0 (pma_cons (pm_var 2) (pma_cons (pm_int) (pma_cons (pm_len FS.b_len (pm_toRef (pm_ix hr.units (pm_ref 1) (pm_toRef (pm_int))))) (pma_nil)))) (cons_len (cons_len (cons_len nil_len)))) rfl sc.nd [("place", 2)]))))))
      (pssm_one (psm_ret (pm_bl)))
      (pssm_nil))
      (pssm_one (psm_ret (pm_eq hr.units (pm_toRef (pm_give (pmo_listOfD FS.b_list (by decide +kernel) (pm_toRef (pm_ix hr.units (pm_ref 1) (pm_toRef (pm_int))))))) (pm_toRef (pm_give (pmo_sortS FS.b_sorted FS.b_set (by decide +kernel) (pm_toRef (pm_ix hr.units (pm_ref 1) (pm_toRef (pm_int))))))))))))
theorem f_is_seen {P : Program} {w : World} {K : PySem.W.Frag} {mg : Str → Option Value} {base : Heap} {fa : Addr} {fd : FuncData} (FS : Facts K mg) (G_is_from : Fn P w K mg base "is_from" 1 3 F_is_from) (G_is_text : Fn P w K mg base "is_text" 3 2 F_is_text) (FD : FunD K "is_seen" "is_seen" (defArgs (top 63)) (defBody (top 63)) (defScope (top 63)) [] [] fa fd) (hm : mg "is_seen" = some (.ref fa)) (hb : Binds K fd ["rule", "value"] []) : Fn P w K mg base "is_seen" 4 2 F_is_seen := fn_ok FD sc_is_seen hm hb rfl rfl fun cdv A outer s H E hr tk => w_is_seen FS G_is_from G_is_text hr tk
/-! check_seen -/
theorem sc_check_seen : FnScope ["rule", "value", "index", "one"] ["rule", "value"] (defScope (top 64)) := ⟨rfl, rfl, rfl, by decide +kernel, rfl, by decide +kernel, by decide +kernel⟩
theorem w_check_seen {P : Program} {w : World} {K : PySem.W.Frag} {mg : Str → Option Value} {base : Heap} (FS : Facts K mg) (G_BadSeen : XInit P w K mg base "BadSeen" ["index"] 1) (G_is_seen : Fn P w K mg base "is_seen" 4 2 F_is_seen) {fa : Addr} {cdv : Value} {A : Around} {outer : List PySem.Env} {s : Shared} {H : Hp} {E : XK} (hr : Room 4 (A.deeper (envOfC "check_seen" (defScope (top 64)) s.heap.objs.size fa cdv))) (tk : Takes (cxOf (L2.CX P w) P w K mg base ["rule", "value", "index", "one"] "check_seen" (defScope (top 64)) fa cdv A outer s H E) (fun cls d _ H' => E cls d H')) : PSsM (cxOf (L2.CX P w) P w K mg base ["rule", "value", "index", "one"] "check_seen" (defScope (top 64)) fa cdv A outer s H E) (fun cls d _ H' => E cls d H') (defBody (top 64)) m_check_seen := by
  have sc := sc_check_seen
  exact pssm_cons (psm_if (pmt_w (pmw_or (pmt_not (pmt_val (pm_isi2 FS.b_isinstance (by decide +kernel) FS.b_list (by decide +kernel) FS.b_tuple (by decide +kernel) (pm_ref 1)))) (pmw_or1 (pmt_gt hr.units (pm_toRef (pm_len FS.b_len (pm_ref 1))) (pm_toRef (pm_gint FS.c_MOST_SEEN))))))
      (pssm_one (psm_raiseX G_BadSeen (by decide) hr tk (pma_cons (pm_non) (pma_nil)) (cons_len nil_len)))
      (pssm_nil))
      (pssm_one (psm_for PassesOwn.leaving rfl (pim_enum FS.b_enumerate (pma_cons (pm_var 1) (pma_nil))) (pgm_tup (pgsm_cons (pgm_name 2 sc.nd) (pgsm_cons (pgm_name 3 sc.nd) (pgsm_nil)))) (gTup_quiet (gsCons_quiet (gN_quiet 2) (gsCons_quiet (gN_quiet 3) (gsNil_quiet))))
      (pssm_one (psm_if (pmt_not (pmt_val (pm_call G_is_seen hr tk (pma_cons (pm_var 0) (pma_cons (pm_var 3) (pma_nil))) (cons_len (cons_len nil_len)))))
      (pssm_one (psm_raiseX G_BadSeen (by decide) hr tk (pma_cons (pm_var 2) (pma_nil)) (cons_len nil_len)))
      (pssm_nil)))))
theorem f_check_seen {P : Program} {w : World} {K : PySem.W.Frag} {mg : Str → Option Value} {base : Heap} {fa : Addr} {fd : FuncData} (FS : Facts K mg) (G_BadSeen : XInit P w K mg base "BadSeen" ["index"] 1) (G_is_seen : Fn P w K mg base "is_seen" 4 2 F_is_seen) (FD : FunD K "check_seen" "check_seen" (defArgs (top 64)) (defBody (top 64)) (defScope (top 64)) [] [] fa fd) (hm : mg "check_seen" = some (.ref fa)) (hb : Binds K fd ["rule", "value"] []) : Fn P w K mg base "check_seen" 5 2 F_check_seen := fn_ok FD sc_check_seen hm hb rfl rfl fun cdv A outer s H E hr tk => w_check_seen FS G_BadSeen G_is_seen hr tk
/-! does_fit -/
theorem sc_does_fit : FnScope ["rule", "seen", "text", "places"] ["rule", "seen"] (defScope (top 66)) := ⟨rfl, rfl, rfl, by decide +kernel, rfl, by decide +kernel, by decide +kernel⟩
theorem w_does_fit {P : Program} {w : World} {K : PySem.W.Frag} {mg : Str → Option Value} {base : Heap} (FS : Facts K mg) (G_cuts_of : Fn P w K mg base "cuts_of" 2 2 F_cuts_of) {fa : Addr} {cdv : Value} {A : Around} {outer : List PySem.Env} {s : Shared} {H : Hp} {E : XK} (hr : Room 2 (A.deeper (envOfC "does_fit" (defScope (top 66)) s.heap.objs.size fa cdv))) (tk : Takes (cxOf (L2.CX P w) P w K mg base ["rule", "seen", "text", "places"] "does_fit" (defScope (top 66)) fa cdv A outer s H E) (fun cls d _ H' => E cls d H')) : PSsM (cxOf (L2.CX P w) P w K mg base ["rule", "seen", "text", "places"] "does_fit" (defScope (top 66)) fa cdv A outer s H E) (fun cls d _ H' => E cls d H') (defBody (top 66)) m_does_fit := by
  have sc := sc_does_fit
  exact pssm_one (psm_ret (pm_all FS.b_all (pm_toRef (pm_give (pmo_lc (pim_items (pm_var 1)) (fun _ _ _ _ _ => pgm_tup (pgsm_cons (pgm_name 2 sc.nd) (pgsm_cons (pgm_name 3 sc.nd) (pgsm_nil)))) (fun _ _ _ _ _ => pmts_nil) (fun _ _ _ _ _ => pm_eq hr.units (pm_toRef (pm_tupleOf FS.b_tuple (by decide +kernel) (pm_toRef (pm_call G_cuts_of hr takes0 (pma_cons (pm_var 0) (pma_cons (pm_var 2) (pma_nil))) (cons_len (cons_len nil_len)))))) (pm_ref 3)) rfl sc.nd [("text", 2), ("places", 3)])))))
theorem f_does_fit {P : Program} {w : World} {K : PySem.W.Frag} {mg : Str → Option Value} {base : Heap} {fa : Addr} {fd : FuncData} (FS : Facts K mg) (G_cuts_of : Fn P w K mg base "cuts_of" 2 2 F_cuts_of) (FD : FunD K "does_fit" "does_fit" (defArgs (top 66)) (defBody (top 66)) (defScope (top 66)) [] [] fa fd) (hm : mg "does_fit" = some (.ref fa)) (hb : Binds K fd ["rule", "seen"] []) : Fn P w K mg base "does_fit" 3 2 F_does_fit := fn_ok FD sc_does_fit hm hb rfl rfl fun cdv A outer s H E hr tk => w_does_fit FS G_cuts_of hr tk
/-! subsets_of -/
theorem sc_subsets_of : FnScope ["things", "found", "thing", "some"] ["things"] (defScope (top 65)) := ⟨rfl, rfl, rfl, by decide +kernel, rfl, by decide +kernel, by decide +kernel⟩
theorem w_subsets_of {P : Program} {w : World} {K : PySem.W.Frag} {mg : Str → Option Value} {base : Heap} (FS : Facts K mg) {fa : Addr} {cdv : Value} {A : Around} {outer : List PySem.Env} {s : Shared} {H : Hp} {E : XK} (hr : Room 0 (A.deeper (envOfC "subsets_of" (defScope (top 65)) s.heap.objs.size fa cdv))) (tk : Takes (cxOf (L2.CX P w) P w K mg base ["things", "found", "thing", "some"] "subsets_of" (defScope (top 65)) fa cdv A outer s H E) (fun cls d _ H' => E cls d H')) : PSsM (cxOf (L2.CX P w) P w K mg base ["things", "found", "thing", "some"] "subsets_of" (defScope (top 65)) fa cdv A outer s H E) (fun cls d _ H' => E cls d H') (defBody (top 65)) m_subsets_of := by
  have sc := sc_subsets_of
  exact pssm_cons (psm_set 1 (pm_give (pmo_lst (pma_cons (pm_tup (pma_nil)) (pma_nil)))) sc.nd)
      (pssm_cons (psm_for PassesOwn.leaving rfl (pim_items (pm_var 0)) (pgm_name 2 sc.nd) (gN_quiet 2)
      (pssm_one (psm_set 1 (pm_add (pm_ref 1) (pm_toRef (pm_give (pmo_lc (pim_items (pm_var 1)) (fun _ _ _ _ _ => pgm_name 3 sc.nd) (fun _ _ _ _ _ => pmts_nil) (fun _ _ _ _ _ => pm_tup (pma_star (pm_ref 3) (pma_cons (pm_var 2) (pma_nil)))) rfl sc.nd [("some", 3)])))) sc.nd)))
      (pssm_one (psm_ret (pm_var 1))))
theorem f_subsets_of {P : Program} {w : World} {K : PySem.W.Frag} {mg : Str → Option Value} {base : Heap} {fa : Addr} {fd : FuncData} (FS : Facts K mg) (FD : FunD K "subsets_of" "subsets_of" (defArgs (top 65)) (defBody (top 65)) (defScope (top 65)) [] [] fa fd) (hm : mg "subsets_of" = some (.ref fa)) (hb : Binds K fd ["things"] []) : Fn P w K mg base "subsets_of" 1 1 F_subsets_of := fn_ok FD sc_subsets_of hm hb rfl rfl fun cdv A outer s H E hr tk => w_subsets_of FS hr tk
/-! fitting -/
theorem sc_fitting : FnScope ["signs", "window", "least", "most", "seen", "words", "found", "sure", "some", "word"] ["signs", "window", "least", "most", "seen"] (defScope (top 67)) := ⟨rfl, rfl, rfl, by decide +kernel, rfl, by decide +kernel, by decide +kernel⟩
theorem w_fitting {P : Program} {w : World} {K : PySem.W.Frag} {mg : Str → Option Value} {base : Heap} (FS : Facts K mg) (G_Rule : MkF P w K mg base 3 F_Rule) (G_all_words : Fn P w K mg base "all_words" 1 2 F_all_words) (G_check_lengths : Fn P w K mg base "check_lengths" 2 2 F_check_lengths) (G_check_seen : Fn P w K mg base "check_seen" 5 2 F_check_seen) (G_check_shape : Fn P w K mg base "check_shape" 2 2 F_check_shape) (G_check_small : Fn P w K mg base "check_small" 2 2 F_check_small) (G_does_fit : Fn P w K mg base "does_fit" 3 2 F_does_fit) (G_subsets_of : Fn P w K mg base "subsets_of" 1 1 F_subsets_of) {fa : Addr} {cdv : Value} {A : Around} {outer : List PySem.Env} {s : Shared} {H : Hp} {E : XK} (hr : Room 5 (A.deeper (envOfC "fitting" (defScope (top 67)) s.heap.objs.size fa cdv))) (tk : Takes (cxOf (L2.CX P w) P w K mg base ["signs", "window", "least", "most", "seen", "words", "found", "sure", "some", "word"] "fitting" (defScope (top 67)) fa cdv A outer s H E) (fun cls d _ H' => E cls d H')) : PSsM (cxOf (L2.CX P w) P w K mg base ["signs", "window", "least", "most", "seen", "words", "found", "sure", "some", "word"] "fitting" (defScope (top 67)) fa cdv A outer s H E) (fun cls d _ H' => E cls d H') (defBody (top 67)) m_fitting := by
  have sc := sc_fitting
  exact pssm_cons (psm_expr (pm_call G_check_shape hr tk (pma_cons (pm_var 0) (pma_cons (pm_var 1) (pma_nil))) (cons_len (cons_len nil_len))))
      (pssm_cons (psm_expr (pm_call G_check_lengths hr tk (pma_cons (pm_var 2) (pma_cons (pm_var 3) (pma_nil))) (cons_len (cons_len nil_len))))
      (pssm_cons (psm_expr (pm_call G_check_small hr tk (pma_cons (pm_var 0) (pma_cons (pm_var 1) (pma_nil))) (cons_len (cons_len nil_len))))
      (pssm_cons (psm_expr (pm_call G_check_seen hr tk (pma_cons (pm_make G_Rule hr tk (pma_cons (pm_var 0) (pma_cons (pm_var 1) (pma_cons (pm_tup (pma_nil)) (pma_cons (pm_var 2) (pma_cons (pm_var 3) (pma_nil)))))) (cons_len (cons_len (cons_len (cons_len (cons_len nil_len))))) (fun _ _ _ _ h => initM_ret h)) (pma_cons (pm_var 4) (pma_nil))) (cons_len (cons_len nil_len))))
      (pssm_cons (psm_set 5 (pm_call G_all_words hr tk (pma_cons (pm_var 0) (pma_cons (pm_var 1) (pma_nil))) (cons_len (cons_len nil_len))) sc.nd)
      (pssm_cons (psm_set 6 (pm_give (pmo_lc (pim_items (pm_call G_subsets_of hr tk (pma_cons (pm_var 5) (pma_nil)) (cons_len nil_len))) (fun _ _ _ _ _ => pgm_name 8 sc.nd) (fun _ _ _ _ _ => pmts_one (pmt_val (pm_call G_does_fit hr takes0 (pma_cons (pm_make G_Rule hr takes0 (pma_cons (pm_var 0) (pma_cons (pm_var 1) (pma_cons (pm_var 8) (pma_cons (pm_var 2) (pma_cons (pm_var 3) (pma_nil)))))) (cons_len (cons_len (cons_len (cons_len (cons_len nil_len))))) (fun _ _ _ _ h => initM_ret h)) (pma_cons (pm_var 4) (pma_nil))) (cons_len (cons_len nil_len))))) (fun _ _ _ _ _ => pm_var 8) rfl sc.nd [("some", 8)])) sc.nd)
      (pssm_cons (psm_set 7 (pm_ifExp (pmt_ne hr.units (pm_ref 6) (pm_toRef (pm_give (pmo_lst (pma_nil))))) (pm_give (pmo_lc (pim_items (pm_var 5)) (fun _ _ _ _ _ => pgm_name 9 sc.nd) (fun _ _ _ _ _ => pmts_one (pmt_val (pm_all FS.b_all (pm_toRef (pm_give (pmo_lc (pim_items (pm_var 6)) (fun _ _ _ _ _ => pgm_name 8 sc.nd) (fun _ _ _ _ _ => pmts_nil) (fun _ _ _ _ _ => pm_in (u65 hr) (pm_ref 9) (pm_ref 8)) rfl sc.nd [("some", 8)])))))) (fun _ _ _ _ _ => pm_var 9) rfl sc.nd [("word", 9)])) (pm_give (pmo_lst (pma_nil)))) sc.nd)
      (pssm_one (psm_ret (pm_tup (pma_cons (pm_len FS.b_len (pm_ref 6)) (pma_cons (pm_var 7) (pma_cons (pm_give (pmo_lc (pim_items (pm_var 5)) (fun _ _ _ _ _ => pgm_name 9 sc.nd) (fun _ _ _ _ _ => pmts_one (pmt_val (pm_any FS.b_any (pm_toRef (pm_give (pmo_lc (pim_items (pm_var 6)) (fun _ _ _ _ _ => pgm_name 8 sc.nd) (fun _ _ _ _ _ => pmts_nil) (fun _ _ _ _ _ => pm_in (u65 hr) (pm_ref 9) (pm_ref 8)) rfl sc.nd [("some", 8)])))))) (fun _ _ _ _ _ => pm_var 9) rfl sc.nd [("word", 9)])) (pma_nil)))))))))))))
theorem f_fitting {P : Program} {w : World} {K : PySem.W.Frag} {mg : Str → Option Value} {base : Heap} {fa : Addr} {fd : FuncData} (FS : Facts K mg) (G_Rule : MkF P w K mg base 3 F_Rule) (G_all_words : Fn P w K mg base "all_words" 1 2 F_all_words) (G_check_lengths : Fn P w K mg base "check_lengths" 2 2 F_check_lengths) (G_check_seen : Fn P w K mg base "check_seen" 5 2 F_check_seen) (G_check_shape : Fn P w K mg base "check_shape" 2 2 F_check_shape) (G_check_small : Fn P w K mg base "check_small" 2 2 F_check_small) (G_does_fit : Fn P w K mg base "does_fit" 3 2 F_does_fit) (G_subsets_of : Fn P w K mg base "subsets_of" 1 1 F_subsets_of) (FD : FunD K "fitting" "fitting" (defArgs (top 67)) (defBody (top 67)) (defScope (top 67)) [] [] fa fd) (hm : mg "fitting" = some (.ref fa)) (hb : Binds K fd ["signs", "window", "least", "most", "seen"] []) : Fn P w K mg base "fitting" 6 5 F_fitting := fn_ok FD sc_fitting hm hb rfl rfl fun cdv A outer s H E hr tk => w_fitting FS G_Rule G_all_words G_check_lengths G_check_seen G_check_shape G_check_small G_does_fit G_subsets_of hr tk
/-! number_in -/
theorem sc_number_in : FnScope ["words", "at", "line", "low", "high", "number"] ["words", "at", "line", "low", "high"] (defScope (top 57)) := ⟨rfl, rfl, rfl, by decide +kernel, rfl, by decide +kernel, by decide +kernel⟩
theorem w_number_in {P : Program} {w : World} {K : PySem.W.Frag} {mg : Str → Option Value} {base : Heap} (FS : Facts K mg) (G_BadLine : XInit P w K mg base "BadLine" ["line", "word"] 1) {fa : Addr} {cdv : Value} {A : Around} {outer : List PySem.Env} {s : Shared} {H : Hp} {E : XK} (hr : Room 2 (A.deeper (envOfC "number_in" (defScope (top 57)) s.heap.objs.size fa cdv))) (tk : Takes (cxOf (L2.CX P w) P w K mg base ["words", "at", "line", "low", "high", "number"] "number_in" (defScope (top 57)) fa cdv A outer s H E) (fun cls d _ H' => E cls d H')) : PSsM (cxOf (L2.CX P w) P w K mg base ["words", "at", "line", "low", "high", "number"] "number_in" (defScope (top 57)) fa cdv A outer s H E) (fun cls d _ H' => E cls d H') (defBody (top 57)) m_number_in := by
  have sc := sc_number_in
  exact pssm_cons (psm_if (pmt_w (pmw_or (pmt_ge (pm_ref 1) (pm_toRef (pm_len FS.b_len (pm_ref 0)))) (pmw_or1 (pmt_notin (u65 hr) (pm_toRef (pm_ix hr.units (pm_ref 0) (pm_ref 1))) (pm_toRef (pm_give (pmo_lc (pim_range2 FS.b_range (pma_cons (pm_var 3) (pma_cons (pm_add (pm_ref 4) (pm_toRef (pm_int))) (pma_nil)))) (fun _ _ _ _ _ => pgm_name 5 sc.nd) (fun _ _ _ _ _ => pmts_nil) (fun _ _ _ _ _ => pm_toStr FS.b_str (pm_ref 5)) rfl sc.nd [("number", 5)])))))))
      (pssm_one (psm_raiseX G_BadLine (by decide) hr tk (pma_cons (pm_var 2) (pma_cons (pm_add (pm_ref 1) (pm_toRef (pm_int))) (pma_nil))) (cons_len (cons_len nil_len))))
      (pssm_nil))
      (pssm_one (psm_ret (pm_intT FS.b_int (pm_toRef (pm_ix hr.units (pm_ref 0) (pm_ref 1))))))
theorem f_number_in {P : Program} {w : World} {K : PySem.W.Frag} {mg : Str → Option Value} {base : Heap} {fa : Addr} {fd : FuncData} (FS : Facts K mg) (G_BadLine : XInit P w K mg base "BadLine" ["line", "word"] 1) (FD : FunD K "number_in" "number_in" (defArgs (top 57)) (defBody (top 57)) (defScope (top 57)) [] [] fa fd) (hm : mg "number_in" = some (.ref fa)) (hb : Binds K fd ["words", "at", "line", "low", "high"] []) : Fn P w K mg base "number_in" 3 5 F_number_in := fn_ok FD sc_number_in hm hb rfl rfl fun cdv A outer s H E hr tk => w_number_in FS G_BadLine hr tk
/-! head_in -/
theorem sc_head_in : FnScope ["words", "least", "most", "signs", "window"] ["words"] (defScope (top 58)) := ⟨rfl, rfl, rfl, by decide +kernel, rfl, by decide +kernel, by decide +kernel⟩
theorem w_head_in {P : Program} {w : World} {K : PySem.W.Frag} {mg : Str → Option Value} {base : Heap} (FS : Facts K mg) (G_BadLine : XInit P w K mg base "BadLine" ["line", "word"] 1) (G_number_in : Fn P w K mg base "number_in" 3 5 F_number_in) {fa : Addr} {cdv : Value} {A : Around} {outer : List PySem.Env} {s : Shared} {H : Hp} {E : XK} (hr : Room 3 (A.deeper (envOfC "head_in" (defScope (top 58)) s.heap.objs.size fa cdv))) (tk : Takes (cxOf (L2.CX P w) P w K mg base ["words", "least", "most", "signs", "window"] "head_in" (defScope (top 58)) fa cdv A outer s H E) (fun cls d _ H' => E cls d H')) : PSsM (cxOf (L2.CX P w) P w K mg base ["words", "least", "most", "signs", "window"] "head_in" (defScope (top 58)) fa cdv A outer s H E) (fun cls d _ H' => E cls d H') (defBody (top 58)) m_head_in := by
  have sc := sc_head_in
  exact pssm_cons (psm_if (pmt_ne hr.units (pm_toRef (pm_slice (pm_ref 0) (pmp_none) (pmp_some (pm_int)))) (pm_toRef (pm_give (pmo_lst (pma_cons (pm_gstr FS.c_RULE) (pma_nil))))))
      (pssm_one (psm_raiseX G_BadLine (by decide) hr tk (pma_cons (pm_int) (pma_cons (pm_int) (pma_nil))) (cons_len (cons_len nil_len))))
      (pssm_nil))
      (pssm_cons (psm_par2 3 4 (pml_val (pm_call G_number_in hr tk (pma_cons (pm_var 0) (pma_cons (pm_int) (pma_cons (pm_int) (pma_cons (pm_int) (pma_cons (pm_gint FS.c_MOST_SIGNS) (pma_nil)))))) (cons_len (cons_len (cons_len (cons_len (cons_len nil_len)))))) (pml_val (pm_call G_number_in hr tk (pma_cons (pm_var 0) (pma_cons (pm_int) (pma_cons (pm_int) (pma_cons (pm_int) (pma_cons (pm_gint FS.c_MOST_WINDOW) (pma_nil)))))) (cons_len (cons_len (cons_len (cons_len (cons_len nil_len)))))) (pml_nil))) sc.nd)
      (pssm_cons (psm_set 1 (pm_call G_number_in hr tk (pma_cons (pm_var 0) (pma_cons (pm_int) (pma_cons (pm_int) (pma_cons (pm_int) (pma_cons (pm_gint FS.c_MOST_LEAST) (pma_nil)))))) (cons_len (cons_len (cons_len (cons_len (cons_len nil_len)))))) sc.nd)
      (pssm_cons (psm_set 2 (pm_ifExp (pmt_eq hr.units (pm_toRef (pm_slice (pm_ref 0) (pmp_some (pm_int)) (pmp_some (pm_int)))) (pm_toRef (pm_give (pmo_lst (pma_cons (pm_gstr FS.c_NONE) (pma_nil)))))) (pm_non) (pm_call G_number_in hr tk (pma_cons (pm_var 0) (pma_cons (pm_int) (pma_cons (pm_int) (pma_cons (pm_var 1) (pma_cons (pm_gint FS.c_MOST_LENGTH) (pma_nil)))))) (cons_len (cons_len (cons_len (cons_len (cons_len nil_len))))))) sc.nd)
      (pssm_cons (psm_if (pmt_gt hr.units (pm_toRef (pm_len FS.b_len (pm_ref 0))) (pm_toRef (pm_int)))
      (pssm_one (psm_raiseX G_BadLine (by decide) hr tk (pma_cons (pm_int) (pma_cons (pm_int) (pma_nil))) (cons_len (cons_len nil_len))))
      (pssm_nil))
      (pssm_one (psm_ret (pm_tup (pma_cons (pm_var 3) (pma_cons (pm_var 4) (pma_cons (pm_var 1) (pma_cons (pm_var 2) (pma_nil))))))))))))
theorem f_head_in {P : Program} {w : World} {K : PySem.W.Frag} {mg : Str → Option Value} {base : Heap} {fa : Addr} {fd : FuncData} (FS : Facts K mg) (G_BadLine : XInit P w K mg base "BadLine" ["line", "word"] 1) (G_number_in : Fn P w K mg base "number_in" 3 5 F_number_in) (FD : FunD K "head_in" "head_in" (defArgs (top 58)) (defBody (top 58)) (defScope (top 58)) [] [] fa fd) (hm : mg "head_in" = some (.ref fa)) (hb : Binds K fd ["words"] []) : Fn P w K mg base "head_in" 4 1 F_head_in := fn_ok FD sc_head_in hm hb rfl rfl fun cdv A outer s H E hr tk => w_head_in FS G_BadLine G_number_in hr tk
/-! word_in -/
theorem sc_word_in : FnScope ["words", "line", "signs", "window", "found", "at"] ["words", "line", "signs", "window"] (defScope (top 59)) := ⟨rfl, rfl, rfl, by decide +kernel, rfl, by decide +kernel, by decide +kernel⟩
theorem w_word_in {P : Program} {w : World} {K : PySem.W.Frag} {mg : Str → Option Value} {base : Heap} (FS : Facts K mg) (G_BadLine : XInit P w K mg base "BadLine" ["line", "word"] 1) (G_number_in : Fn P w K mg base "number_in" 3 5 F_number_in) {fa : Addr} {cdv : Value} {A : Around} {outer : List PySem.Env} {s : Shared} {H : Hp} {E : XK} (hr : Room 3 (A.deeper (envOfC "word_in" (defScope (top 59)) s.heap.objs.size fa cdv))) (tk : Takes (cxOf (L2.CX P w) P w K mg base ["words", "line", "signs", "window", "found", "at"] "word_in" (defScope (top 59)) fa cdv A outer s H E) (fun cls d _ H' => E cls d H')) : PSsM (cxOf (L2.CX P w) P w K mg base ["words", "line", "signs", "window", "found", "at"] "word_in" (defScope (top 59)) fa cdv A outer s H E) (fun cls d _ H' => E cls d H') (defBody (top 59)) m_word_in := by
  have sc := sc_word_in
  exact pssm_cons (psm_if (pmt_ne hr.units (pm_toRef (pm_slice (pm_ref 0) (pmp_none) (pmp_some (pm_int)))) (pm_toRef (pm_give (pmo_lst (pma_cons (pm_gstr FS.c_WORD) (pma_nil))))))
      (pssm_one (psm_raiseX G_BadLine (by decide) hr tk (pma_cons (pm_var 1) (pma_cons (pm_int) (pma_nil))) (cons_len (cons_len nil_len))))
      (pssm_nil))
      (pssm_cons (psm_set 4 (pm_tupleOf FS.b_tuple (by decide +kernel) (pm_toRef (pm_give (pmo_lc (pim_range2 FS.b_range (pma_cons (pm_int) (pma_cons (pm_add (pm_ref 3) (pm_toRef (pm_int))) (pma_nil)))) (fun _ _ _ _ _ => pgm_name 5 sc.nd) (fun _ _ _ _ _ => pmts_nil) (fun _ _ _ _ _ => pm_call G_number_in hr takes0 (pma_cons (pm_var 0) (pma_cons (pm_var 5) (pma_cons (pm_var 1) (pma_cons (pm_int) (pma_cons (pm_sub (pm_ref 2) (pm_toRef (pm_int))) (pma_nil)))))) (cons_len (cons_len (cons_len (cons_len (cons_len nil_len)))))) rfl sc.nd [("at", 5)])))) sc.nd)
      (pssm_cons (psm_if (pmt_gt hr.units (pm_toRef (pm_len FS.b_len (pm_ref 0))) (pm_toRef (pm_add (pm_ref 3) (pm_toRef (pm_int)))))
      (pssm_one (psm_raiseX G_BadLine (by decide) hr tk (pma_cons (pm_var 1) (pma_cons (pm_add (pm_ref 3) (pm_toRef (pm_int))) (pma_nil))) (cons_len (cons_len nil_len))))
      (pssm_nil))
      (pssm_one (psm_ret (pm_var 4)))))
theorem f_word_in {P : Program} {w : World} {K : PySem.W.Frag} {mg : Str → Option Value} {base : Heap} {fa : Addr} {fd : FuncData} (FS : Facts K mg) (G_BadLine : XInit P w K mg base "BadLine" ["line", "word"] 1) (G_number_in : Fn P w K mg base "number_in" 3 5 F_number_in) (FD : FunD K "word_in" "word_in" (defArgs (top 59)) (defBody (top 59)) (defScope (top 59)) [] [] fa fd) (hm : mg "word_in" = some (.ref fa)) (hb : Binds K fd ["words", "line", "signs", "window"] []) : Fn P w K mg base "word_in" 4 4 F_word_in := fn_ok FD sc_word_in hm hb rfl rfl fun cdv A outer s H E hr tk => w_word_in FS G_BadLine G_number_in hr tk
/-! read -/
theorem sc_read : FnScope ["text", "lines", "found", "signs", "window", "least", "most", "at", "words", "word", "line"] ["text"] (defScope (top 60)) := ⟨rfl, rfl, rfl, by decide +kernel, rfl, by decide +kernel, by decide +kernel⟩
theorem w_read {P : Program} {w : World} {K : PySem.W.Frag} {mg : Str → Option Value} {base : Heap} (FS : Facts K mg) (G_BadLine : XInit P w K mg base "BadLine" ["line", "word"] 1) (G_Rule : MkF P w K mg base 3 F_Rule) (G_head_in : Fn P w K mg base "head_in" 4 1 F_head_in) (G_word_in : Fn P w K mg base "word_in" 4 4 F_word_in) {fa : Addr} {cdv : Value} {A : Around} {outer : List PySem.Env} {s : Shared} {H : Hp} {E : XK} (hr : Room 4 (A.deeper (envOfC "read" (defScope (top 60)) s.heap.objs.size fa cdv))) (tk : Takes (cxOf (L2.CX P w) P w K mg base ["text", "lines", "found", "signs", "window", "least", "most", "at", "words", "word", "line"] "read" (defScope (top 60)) fa cdv A outer s H E) (fun cls d _ H' => E cls d H')) : PSsM (cxOf (L2.CX P w) P w K mg base ["text", "lines", "found", "signs", "window", "least", "most", "at", "words", "word", "line"] "read" (defScope (top 60)) fa cdv A outer s H E) (fun cls d _ H' => E cls d H') (defBody (top 60)) m_read := by
  have sc := sc_read
  exact pssm_cons (psm_setLc 1 (pim_items (pm_give (pmo_split (pm_var 0) (pm_toRef (pm_str))))) (fun _ _ _ _ _ => pgm_name 10 sc.nd) (fun _ _ _ _ _ => pmts_nil) (fun _ _ _ _ _ => pm_give (pmo_lc (pim_items (pm_give (pmo_split (pm_var 10) (pm_toRef (pm_str))))) (fun _ _ _ _ _ => pgm_name 9 sc.nd) (fun _ _ _ _ _ => pmts_one (pmt_ne hr.units (pm_ref 9) (pm_toRef (pm_str)))) (fun _ _ _ _ _ => pm_var 9) rfl sc.nd [("word", 9)])) rfl sc.nd [("line", 10)])
      (pssm_cons (psm_asg (pm_call G_head_in hr tk (pma_cons (pm_ix hr.units (pm_ref 1) (pm_toRef (pm_int))) (pma_nil)) (cons_len nil_len)) (pgm_tup (pgsm_cons (pgm_name 3 sc.nd) (pgsm_cons (pgm_name 4 sc.nd) (pgsm_cons (pgm_name 5 sc.nd) (pgsm_cons (pgm_name 6 sc.nd) (pgsm_nil)))))) (gTup_quiet (gsCons_quiet (gN_quiet 3) (gsCons_quiet (gN_quiet 4) (gsCons_quiet (gN_quiet 5) (gsCons_quiet (gN_quiet 6) (gsNil_quiet)))))))
      (pssm_cons (psm_setO 2 (pmo_lst (pma_nil)) sc.nd)
      (pssm_cons (psm_for PassesOwn.leaving rfl (pim_enum FS.b_enumerate (pma_cons (pm_slice (pm_ref 1) (pmp_some (pm_int)) (pmp_none)) (pma_nil))) (pgm_tup (pgsm_cons (pgm_name 7 sc.nd) (pgsm_cons (pgm_name 8 sc.nd) (pgsm_nil)))) (gTup_quiet (gsCons_quiet (gN_quiet 7) (gsCons_quiet (gN_quiet 8) (gsNil_quiet))))
      (pssm_cons (psm_set 9 (pm_call G_word_in hr tk (pma_cons (pm_var 8) (pma_cons (pm_add (pm_ref 7) (pm_toRef (pm_int))) (pma_cons (pm_var 3) (pma_cons (pm_var 4) (pma_nil))))) (cons_len (cons_len (cons_len (cons_len nil_len))))) sc.nd)
      (pssm_cons (psm_if (pmt_w (pmw_and (pmt_ne hr.units (pm_ref 2) (pm_toRef (pm_give (pmo_lst (pma_nil))))) (pmw_and1 (pmt_le hr.units (pm_ref 9) (pm_toRef (pm_ix hr.units (pm_ref 2) (pm_toRef (pm_neg (pm_int)))))))))
      (pssm_one (psm_raiseX G_BadLine (by decide) hr tk (pma_cons (pm_add (pm_ref 7) (pm_toRef (pm_int))) (pma_cons (pm_int) (pma_nil))) (cons_len (cons_len nil_len))))
      (pssm_nil))
      (pssm_one (psm_append 2 (pm_var 9))))))
      (pssm_one (psm_ret (pm_make G_Rule hr tk (pma_cons (pm_var 3) (pma_cons (pm_var 4) (pma_cons (pm_tupleOf FS.b_tuple (by decide +kernel) (pm_ref 2)) (pma_cons (pm_var 5) (pma_cons (pm_var 6) (pma_nil)))))) (cons_len (cons_len (cons_len (cons_len (cons_len nil_len))))) (fun _ _ _ _ h => initM_ret h)))))))
theorem f_read {P : Program} {w : World} {K : PySem.W.Frag} {mg : Str → Option Value} {base : Heap} {fa : Addr} {fd : FuncData} (FS : Facts K mg) (G_BadLine : XInit P w K mg base "BadLine" ["line", "word"] 1) (G_Rule : MkF P w K mg base 3 F_Rule) (G_head_in : Fn P w K mg base "head_in" 4 1 F_head_in) (G_word_in : Fn P w K mg base "word_in" 4 4 F_word_in) (FD : FunD K "read" "read" (defArgs (top 60)) (defBody (top 60)) (defScope (top 60)) [] [] fa fd) (hm : mg "read" = some (.ref fa)) (hb : Binds K fd ["text"] []) : Fn P w K mg base "read" 5 1 F_read := fn_ok FD sc_read hm hb rfl rfl fun cdv A outer s H E hr tk => w_read FS G_BadLine G_Rule G_head_in G_word_in hr tk
/-! _law_raised -/
theorem sc__law_raised : FnScope ["_law_k", "_law_e", "_law_rule", "_law_found"] ["_law_k"] (defScope (top 71)) := ⟨rfl, rfl, rfl, by decide +kernel, rfl, by decide +kernel, by decide +kernel⟩
theorem w__law_raised {P : Program} {w : World} {K : PySem.W.Frag} {mg : Str → Option Value} {base : Heap} (FS : Facts K mg) (G_Rule : MkF P w K mg base 3 F_Rule) (G_alike : Fn P w K mg base "alike" 3 2 F_alike) (G_cuts : Fn P w K mg base "cuts" 5 2 F_cuts) (G_fewest_words : Fn P w K mg base "fewest_words" 6 3 F_fewest_words) (G_first_cuts : Fn P w K mg base "first_cuts" 3 2 F_first_cuts) (G_fitting : Fn P w K mg base "fitting" 6 5 F_fitting) (G_read : Fn P w K mg base "read" 5 1 F_read) {fa : Addr} {cdv : Value} {A : Around} {outer : List PySem.Env} {s : Shared} {H : Hp} {E : XK} (hr : Room 6 (A.deeper (envOfC "_law_raised" (defScope (top 71)) s.heap.objs.size fa cdv))) (tk : Takes (cxOf (L2.CX P w) P w K mg base ["_law_k", "_law_e", "_law_rule", "_law_found"] "_law_raised" (defScope (top 71)) fa cdv A outer s H E) (fun cls d _ H' => E cls d H')) : PSsM (cxOf (L2.CX P w) P w K mg base ["_law_k", "_law_e", "_law_rule", "_law_found"] "_law_raised" (defScope (top 71)) fa cdv A outer s H E) (fun cls d _ H' => E cls d H') (defBody (top 71)) m__law_raised := by
  have sc := sc__law_raised
  exact pssm_cons (psm_par2 2 3 (pml_val (pm_make G_Rule hr tk (pma_cons (pm_int) (pma_cons (pm_int) (pma_cons (pm_tup (pma_cons (pm_tup (pma_cons (pm_int) (pma_nil))) (pma_nil))) (pma_cons (pm_int) (pma_cons (pm_non) (pma_nil)))))) (cons_len (cons_len (cons_len (cons_len (cons_len nil_len))))) (fun _ _ _ _ h => initM_ret h)) (pml_val (pm_non) (pml_nil))) sc.nd)
      (pssm_cons (psm_tryK (i := 1) (j := 3) FS.et tk rfl rfl (fun _ _ _ tk2 pw2 => pssm_one (psm_if (pmt_eq hr.units (pm_ref 0) (pm_toRef (pm_int)))
      (pssm_one (psm_expr (pm_make G_Rule hr tk2 (pma_cons (pm_int) (pma_cons (pm_int) (pma_cons (pm_tup (pma_nil)) (pma_cons (pm_int) (pma_cons (pm_non) (pma_nil)))))) (cons_len (cons_len (cons_len (cons_len (cons_len nil_len))))) (fun _ _ _ _ h => initM_ret h))))
      (pssm_one (psm_if (pmt_eq hr.units (pm_ref 0) (pm_toRef (pm_int)))
      (pssm_one (psm_expr (pm_make G_Rule hr tk2 (pma_cons (pm_int) (pma_cons (pm_int) (pma_cons (pm_tup (pma_nil)) (pma_cons (pm_int) (pma_cons (pm_non) (pma_nil)))))) (cons_len (cons_len (cons_len (cons_len (cons_len nil_len))))) (fun _ _ _ _ h => initM_ret h))))
      (pssm_one (psm_if (pmt_eq hr.units (pm_ref 0) (pm_toRef (pm_int)))
      (pssm_one (psm_expr (pm_make G_Rule hr tk2 (pma_cons (pm_int) (pma_cons (pm_int) (pma_cons (pm_tup (pma_nil)) (pma_cons (pm_int) (pma_cons (pm_int) (pma_nil)))))) (cons_len (cons_len (cons_len (cons_len (cons_len nil_len))))) (fun _ _ _ _ h => initM_ret h))))
      (pssm_one (psm_if (pmt_eq hr.units (pm_ref 0) (pm_toRef (pm_int)))
      (pssm_one (psm_expr (pm_call G_cuts hr tk2 (pma_cons (pm_var 2) (pma_cons (pm_tup (pma_cons (pm_int) (pma_nil))) (pma_nil))) (cons_len (cons_len nil_len)))))
      (pssm_one (psm_if (pmt_eq hr.units (pm_ref 0) (pm_toRef (pm_int)))
      (pssm_one (psm_expr (pm_call G_first_cuts hr tk2 (pma_cons (pm_var 2) (pma_cons (pm_int) (pma_nil))) (cons_len (cons_len nil_len)))))
      (pssm_one (psm_if (pmt_eq hr.units (pm_ref 0) (pm_toRef (pm_int)))
      (pssm_one (psm_expr (pm_call G_alike hr tk2 (pma_cons (pm_var 2) (pma_cons (pm_make G_Rule hr tk2 (pma_cons (pm_int) (pma_cons (pm_int) (pma_cons (pm_tup (pma_nil)) (pma_cons (pm_int) (pma_cons (pm_non) (pma_nil)))))) (cons_len (cons_len (cons_len (cons_len (cons_len nil_len))))) (fun _ _ _ _ h => initM_ret h)) (pma_nil))) (cons_len (cons_len nil_len)))))
      (pssm_one (psm_if (pmt_eq hr.units (pm_ref 0) (pm_toRef (pm_int)))
      (pssm_one (psm_expr (pm_call G_fewest_words hr tk2 (pma_cons (pm_make G_Rule hr tk2 (pma_cons (pm_int) (pma_cons (pm_int) (pma_cons (pm_tup (pma_nil)) (pma_cons (pm_int) (pma_cons (pm_non) (pma_nil)))))) (cons_len (cons_len (cons_len (cons_len (cons_len nil_len))))) (fun _ _ _ _ h => initM_ret h)) (pma_cons (pm_int) (pma_cons (pm_int) (pma_nil)))) (cons_len (cons_len (cons_len nil_len))))))
      (pssm_one (psm_if (pmt_eq hr.units (pm_ref 0) (pm_toRef (pm_int)))
      (pssm_one (psm_expr (pm_make G_Rule hr tk2 (pma_cons (pm_int) (pma_cons (pm_int) (pma_cons (pm_tup (pma_cons (pm_tup (pma_cons (pm_int) (pma_nil))) (pma_cons (pm_tup (pma_cons (pm_int) (pma_nil))) (pma_cons (pm_tup (pma_cons (pm_int) (pma_nil))) (pma_nil))))) (pma_cons (pm_int) (pma_cons (pm_non) (pma_nil)))))) (cons_len (cons_len (cons_len (cons_len (cons_len nil_len))))) (fun _ _ _ _ h => initM_ret h))))
      (pssm_one (psm_if (pmt_eq hr.units (pm_ref 0) (pm_toRef (pm_int)))
      (pssm_one (psm_expr (pm_call G_fitting hr tk2 (pma_cons (pm_int) (pma_cons (pm_int) (pma_cons (pm_int) (pma_cons (pm_non) (pma_cons (pm_give (pmo_lst (pma_cons (pm_tup (pma_cons (pm_tup (pma_cons (pm_int) (pma_nil))) (pma_cons (pm_tup (pma_nil)) (pma_nil)))) (pma_cons (pm_tup (pma_cons (pm_tup (pma_cons (pm_int) (pma_nil))) (pma_cons (pm_tup (pma_cons (pm_int) (pma_nil))) (pma_nil)))) (pma_nil))))) (pma_nil)))))) (cons_len (cons_len (cons_len (cons_len (cons_len nil_len))))))))
      (pssm_one (psm_expr (pm_call G_read hr tk2 (pma_cons (pm_str) (pma_nil)) (cons_len nil_len)))))))))))))))))))))) sc.nd)
      (pssm_one (psm_ret (pm_var 3))))
theorem f__law_raised {P : Program} {w : World} {K : PySem.W.Frag} {mg : Str → Option Value} {base : Heap} {fa : Addr} {fd : FuncData} (FS : Facts K mg) (G_Rule : MkF P w K mg base 3 F_Rule) (G_alike : Fn P w K mg base "alike" 3 2 F_alike) (G_cuts : Fn P w K mg base "cuts" 5 2 F_cuts) (G_fewest_words : Fn P w K mg base "fewest_words" 6 3 F_fewest_words) (G_first_cuts : Fn P w K mg base "first_cuts" 3 2 F_first_cuts) (G_fitting : Fn P w K mg base "fitting" 6 5 F_fitting) (G_read : Fn P w K mg base "read" 5 1 F_read) (FD : FunD K "_law_raised" "_law_raised" (defArgs (top 71)) (defBody (top 71)) (defScope (top 71)) [] [] fa fd) (hm : mg "_law_raised" = some (.ref fa)) (hb : Binds K fd ["_law_k"] []) : Fn P w K mg base "_law_raised" 7 1 F__law_raised := fn_ok FD sc__law_raised hm hb rfl rfl fun cdv A outer s H E hr tk => w__law_raised FS G_Rule G_alike G_cuts G_fewest_words G_first_cuts G_fitting G_read hr tk
/-! law -/
theorem sc_law : FnScope ["_law_script", "_law_row", "_law_k", "_law_found", "_law_j"] ["_law_script"] (defScope (top 73)) := ⟨rfl, rfl, rfl, by decide +kernel, rfl, by decide +kernel, by decide +kernel⟩
theorem w_law {P : Program} {w : World} {K : PySem.W.Frag} {mg : Str → Option Value} {base : Heap} (FS : Facts K mg) (G__law_kinds : Fn P w K mg base "_law_kinds" 1 1 F__law_kinds) (G__law_pick : Fn P w K mg base "_law_pick" 1 2 F__law_pick) (G__law_raised : Fn P w K mg base "_law_raised" 7 1 F__law_raised) {fa : Addr} {cdv : Value} {A : Around} {outer : List PySem.Env} {s : Shared} {H : Hp} {E : XK} (hr : Room 7 (A.deeper (envOfC "law" (defScope (top 73)) s.heap.objs.size fa cdv))) (tk : Takes (cxOf (L2.CX P w) P w K mg base ["_law_script", "_law_row", "_law_k", "_law_found", "_law_j"] "law" (defScope (top 73)) fa cdv A outer s H E) (fun cls d _ H' => E cls d H')) : PSsM (cxOf (L2.CX P w) P w K mg base ["_law_script", "_law_row", "_law_k", "_law_found", "_law_j"] "law" (defScope (top 73)) fa cdv A outer s H E) (fun cls d _ H' => E cls d H') ((defBody (top 73)).tail) m_law := by
  have sc := sc_law
  exact pssm_cons (psm_set 2 (pm_call G__law_pick hr tk (pma_cons (pm_var 1) (pma_cons (pm_int) (pma_nil))) (cons_len (cons_len nil_len))) sc.nd)
      (pssm_cons (psm_set 3 (pm_call G__law_raised hr tk (pma_cons (pm_var 2) (pma_nil)) (cons_len nil_len)) sc.nd)
      (pssm_cons (psm_if (pmt_w (pmw_or (pmt_not (pmt_val (pm_isv FS.et FS.it FS.b_isinstance FS.b_ValueError (pm_ref 3)))) (pmw_or1 (pmt_ne hr.units (pm_toRef (pm_call G__law_kinds hr tk (pma_cons (pm_var 3) (pma_nil)) (cons_len nil_len))) (pm_toRef (pm_give (pmo_lc (pim_range1 FS.b_range (pma_cons (pm_int) (pma_nil))) (fun _ _ _ _ _ => pgm_name 4 sc.nd) (fun _ _ _ _ _ => pmts_nil) (fun _ _ _ _ _ => pm_eq hr.units (pm_ref 2) (pm_ref 4)) rfl sc.nd [("_law_j", 4)])))))))
      (pssm_one (psm_ret (pm_bl)))
      (pssm_nil))
      (pssm_cons (psm_if (pmt_w (pmw_and (pmt_in (u65 hr) (pm_ref 2) (pm_toRef (pm_give (pmo_lst (pma_cons (pm_int) (pma_cons (pm_int) (pma_nil))))))) (pmw_and1 (pmt_ne hr.units (pm_toRef (pm_xf FS.et FS.xt (pm_ref 3))) (pm_toRef (pm_ix hr.units (pm_toRef (pm_give (pmo_disp2 hr.units))) (pm_ref 2)))))))
      (pssm_one (psm_ret (pm_bl)))
      (pssm_nil))
      (pssm_one (psm_ret (pm_or (pm_ne hr.units (pm_ref 2) (pm_toRef (pm_int))) (pm_one (pm_eq hr.units (pm_toRef (pm_tup (pma_cons (pm_xf FS.et FS.xt (pm_ref 3)) (pma_cons (pm_xf FS.et FS.xt (pm_ref 3)) (pma_nil))))) (pm_toRef (pm_tup (pma_cons (pm_int) (pma_cons (pm_int) (pma_nil)))))))))))))
def d_is_from : He.DefD := ⟨("is_from", none), "is_from", "is_from", defArgs (top 19), defBody (top 19), defScope (top 19), [], []⟩
def d_is_word : He.DefD := ⟨("is_word", none), "is_word", "is_word", defArgs (top 20), defBody (top 20), defScope (top 20), [], []⟩
def d_check_shape : He.DefD := ⟨("check_shape", none), "check_shape", "check_shape", defArgs (top 21), defBody (top 21), defScope (top 21), [], []⟩
def d_check_lengths : He.DefD := ⟨("check_lengths", none), "check_lengths", "check_lengths", defArgs (top 22), defBody (top 22), defScope (top 22), [], []⟩
def d_parts_of : He.DefD := ⟨("parts_of", none), "parts_of", "parts_of", defArgs (top 24), defBody (top 24), defScope (top 24), [], []⟩
def d_are_signs : He.DefD := ⟨("are_signs", none), "are_signs", "are_signs", defArgs (top 25), defBody (top 25), defScope (top 25), [], []⟩
def d_is_text : He.DefD := ⟨("is_text", none), "is_text", "is_text", defArgs (top 26), defBody (top 26), defScope (top 26), [], []⟩
def d_check_text : He.DefD := ⟨("check_text", none), "check_text", "check_text", defArgs (top 27), defBody (top 27), defScope (top 27), [], []⟩
def d_step_of : He.DefD := ⟨("step_of", none), "step_of", "step_of", defArgs (top 28), defBody (top 28), defScope (top 28), [], []⟩
def d_stands_of : He.DefD := ⟨("stands_of", none), "stands_of", "stands_of", defArgs (top 29), defBody (top 29), defScope (top 29), [], []⟩
def d_cuts_of : He.DefD := ⟨("cuts_of", none), "cuts_of", "cuts_of", defArgs (top 30), defBody (top 30), defScope (top 30), [], []⟩
def d_cuts : He.DefD := ⟨("cuts", none), "cuts", "cuts", defArgs (top 31), defBody (top 31), defScope (top 31), [], []⟩
def d_counts_of : He.DefD := ⟨("counts_of", none), "counts_of", "counts_of", defArgs (top 34), defBody (top 34), defScope (top 34), [], []⟩
def d_check_places : He.DefD := ⟨("check_places", none), "check_places", "check_places", defArgs (top 35), defBody (top 35), defScope (top 35), [], []⟩
def d_first_cuts : He.DefD := ⟨("first_cuts", none), "first_cuts", "first_cuts", defArgs (top 36), defBody (top 36), defScope (top 36), [], []⟩
def d_begins_of : He.DefD := ⟨("begins_of", none), "begins_of", "begins_of", defArgs (top 38), defBody (top 38), defScope (top 38), [], []⟩
def d_is_before : He.DefD := ⟨("is_before", none), "is_before", "is_before", defArgs (top 39), defBody (top 39), defScope (top 39), [], []⟩
def d_grown_on : He.DefD := ⟨("grown_on", none), "grown_on", "grown_on", defArgs (top 40), defBody (top 40), defScope (top 40), [], []⟩
def d_longest_of : He.DefD := ⟨("longest_of", none), "longest_of", "longest_of", defArgs (top 41), defBody (top 41), defScope (top 41), [], []⟩
def d_parting : He.DefD := ⟨("parting", none), "parting", "parting", defArgs (top 46), defBody (top 46), defScope (top 46), [], []⟩
def d_alike : He.DefD := ⟨("alike", none), "alike", "alike", defArgs (top 47), defBody (top 47), defScope (top 47), [], []⟩
def d_all_words : He.DefD := ⟨("all_words", none), "all_words", "all_words", defArgs (top 48), defBody (top 48), defScope (top 48), [], []⟩
def d_check_small : He.DefD := ⟨("check_small", none), "check_small", "check_small", defArgs (top 49), defBody (top 49), defScope (top 49), [], []⟩
def d_sets_of : He.DefD := ⟨("sets_of", none), "sets_of", "sets_of", defArgs (top 50), defBody (top 50), defScope (top 50), [], []⟩
def d_is_short : He.DefD := ⟨("is_short", none), "is_short", "is_short", defArgs (top 51), defBody (top 51), defScope (top 51), [], []⟩
def d_fewest_words : He.DefD := ⟨("fewest_words", none), "fewest_words", "fewest_words", defArgs (top 52), defBody (top 52), defScope (top 52), [], []⟩
def d_number_in : He.DefD := ⟨("number_in", none), "number_in", "number_in", defArgs (top 57), defBody (top 57), defScope (top 57), [], []⟩
def d_head_in : He.DefD := ⟨("head_in", none), "head_in", "head_in", defArgs (top 58), defBody (top 58), defScope (top 58), [], []⟩
def d_word_in : He.DefD := ⟨("word_in", none), "word_in", "word_in", defArgs (top 59), defBody (top 59), defScope (top 59), [], []⟩
def d_read : He.DefD := ⟨("read", none), "read", "read", defArgs (top 60), defBody (top 60), defScope (top 60), [], []⟩
def d_is_seen : He.DefD := ⟨("is_seen", none), "is_seen", "is_seen", defArgs (top 63), defBody (top 63), defScope (top 63), [], []⟩
def d_check_seen : He.DefD := ⟨("check_seen", none), "check_seen", "check_seen", defArgs (top 64), defBody (top 64), defScope (top 64), [], []⟩
def d_subsets_of : He.DefD := ⟨("subsets_of", none), "subsets_of", "subsets_of", defArgs (top 65), defBody (top 65), defScope (top 65), [], []⟩
def d_does_fit : He.DefD := ⟨("does_fit", none), "does_fit", "does_fit", defArgs (top 66), defBody (top 66), defScope (top 66), [], []⟩
def d_fitting : He.DefD := ⟨("fitting", none), "fitting", "fitting", defArgs (top 67), defBody (top 67), defScope (top 67), [], []⟩
def d__law_draws : He.DefD := ⟨("_law_draws", none), "_law_draws", "_law_draws", defArgs (top 69), defBody (top 69), defScope (top 69), [], []⟩
def d__law_pick : He.DefD := ⟨("_law_pick", none), "_law_pick", "_law_pick", defArgs (top 70), defBody (top 70), defScope (top 70), [], []⟩
def d__law_raised : He.DefD := ⟨("_law_raised", none), "_law_raised", "_law_raised", defArgs (top 71), defBody (top 71), defScope (top 71), [], []⟩
def d__law_kinds : He.DefD := ⟨("_law_kinds", none), "_law_kinds", "_law_kinds", defArgs (top 72), defBody (top 72), defScope (top 72), [], []⟩
def d_law : He.DefD := ⟨("law", none), "law", "law", defArgs (top 73), defBody (top 73), defScope (top 73), [], []⟩
def d_Rule : He.DefD := ⟨("Rule", some "__init__"), "__init__", "Rule.__init__", defArgs (inClass (top 23) 0), defBody (inClass (top 23) 0), defScope (inClass (top 23) 0), [], []⟩
def d_BadWords : He.DefD := ⟨("BadWords", some "__init__"), "__init__", "BadWords.__init__", defArgs (inClass (top 9) 0), defBody (inClass (top 9) 0), defScope (inClass (top 9) 0), [], []⟩
def d_BadSeen : He.DefD := ⟨("BadSeen", some "__init__"), "__init__", "BadSeen.__init__", defArgs (inClass (top 10) 0), defBody (inClass (top 10) 0), defScope (inClass (top 10) 0), [], []⟩
def d_BadLine : He.DefD := ⟨("BadLine", some "__init__"), "__init__", "BadLine.__init__", defArgs (inClass (top 11) 0), defBody (inClass (top 11) 0), defScope (inClass (top 11) 0), [], []⟩
def fn : List He.DefD := [d_is_from, d_is_word, d_check_shape, d_check_lengths, d_parts_of, d_are_signs, d_is_text, d_check_text, d_step_of, d_stands_of, d_cuts_of, d_cuts, d_counts_of, d_check_places, d_first_cuts, d_begins_of, d_is_before, d_grown_on, d_longest_of, d_parting, d_alike, d_all_words, d_check_small, d_sets_of, d_is_short, d_fewest_words, d_number_in, d_head_in, d_word_in, d_read, d_is_seen, d_check_seen, d_subsets_of, d_does_fit, d_fitting, d__law_draws, d__law_pick, d__law_raised, d__law_kinds, d_law, d_Rule, d_BadWords, d_BadSeen, d_BadLine]
def fa : List He.Fa := [.glo "is_from", .glo "is_word", .glo "check_shape", .glo "check_lengths", .glo "parts_of", .glo "are_signs", .glo "is_text", .glo "check_text", .glo "step_of", .glo "stands_of", .glo "cuts_of", .glo "cuts", .glo "counts_of", .glo "check_places", .glo "first_cuts", .glo "begins_of", .glo "is_before", .glo "grown_on", .glo "longest_of", .glo "parting", .glo "alike", .glo "all_words", .glo "check_small", .glo "sets_of", .glo "is_short", .glo "fewest_words", .glo "number_in", .glo "head_in", .glo "word_in", .glo "read", .glo "is_seen", .glo "check_seen", .glo "subsets_of", .glo "does_fit", .glo "fitting", .glo "_law_draws", .glo "_law_pick", .glo "_law_raised", .glo "_law_kinds", .glo "law", .glo "CutError", .glo "BadSigns", .glo "BadWindow", .glo "BadLengths", .glo "BadText", .glo "BadNumber", .glo "Unlike", .glo "TooMany", .glo "BadWords", .glo "BadSeen", .glo "BadLine", .glo "Rule", .free "ValueError", .free "all", .free "any", .free "bool", .free "enumerate", .free "int", .free "isinstance", .free "len", .free "list", .free "min", .free "range", .free "set", .free "sorted", .free "str", .free "tuple", .int "MOST_GOAL" 12, .int "MOST_LEAST" 6, .int "MOST_LENGTH" 8, .int "MOST_MORE" 3, .int "MOST_PLACES" 30, .int "MOST_SEEN" 12, .int "MOST_SIGNS" 3, .int "MOST_TEXT" 400, .int "MOST_WINDOW" 3, .int "MOST_WORDS" 9, .str "NONE" "none", .str "RULE" "rule", .str "WORD" "word", .cls "Rule", .exc "BadLengths", .exc "BadNumber", .exc "BadSigns", .exc "BadText", .exc "BadWindow", .exc "TooMany", .exc "Unlike", .glo "BEGIN", .noat "Rule" "high", .noat "Rule" "low", .noat "Rule" "many", .noat "Rule" "rows", .noat "Rule" "wide", .mkr "Rule"]
def tys : List String := ["bool", "int", "tuple"]
def ks : List (Str × D) := [("BEGIN", .tup [.tup [], .int 0])]
def xcs : List (Str × List Str) := [("BadWords", ["index"]), ("BadSeen", ["index"]), ("BadLine", ["line", "word"])]
def exA0 (K : PySem.W.Frag) : Bool := exB errs tys ks K && xcs.all fun p => xB K p.1 p.2
def exA (K : PySem.W.Frag) : Bool := exA0 K && errB errs K
theorem facts_of {K : PySem.W.Frag} {h : Heap} {mg : Str → Option Value} (KX : K.In h) (G : h.Ns mainGlobals mg) (c : He.SaysD fa fn K) (hx0 : exA K = true) : Facts K mg :=
  have hx : exA0 K = true := (Bool.and_eq_true_iff.mp hx0).1
  have hxx : ∀ p ∈ xcs, xB K p.1 p.2 = true := List.all_eq_true.mp (Bool.and_eq_true_iff.mp hx).2
  have E := ex_of (Bool.and_eq_true_iff.mp hx).1
  { b_ValueError := He.free_ok KX G (c.fact 52 rfl),
    b_all := He.free_ok KX G (c.fact 53 rfl),
    b_any := He.free_ok KX G (c.fact 54 rfl),
    b_bool := He.free_ok KX G (c.fact 55 rfl),
    b_enumerate := He.free_ok KX G (c.fact 56 rfl),
    b_int := He.free_ok KX G (c.fact 57 rfl),
    b_isinstance := He.free_ok KX G (c.fact 58 rfl),
    b_len := He.free_ok KX G (c.fact 59 rfl),
    b_list := He.free_ok KX G (c.fact 60 rfl),
    b_min := He.free_ok KX G (c.fact 61 rfl),
    b_range := He.free_ok KX G (c.fact 62 rfl),
    b_set := He.free_ok KX G (c.fact 63 rfl),
    b_sorted := He.free_ok KX G (c.fact 64 rfl),
    b_str := He.free_ok KX G (c.fact 65 rfl),
    b_tuple := He.free_ok KX G (c.fact 66 rfl),
    c_MOST_GOAL := He.int_ok KX G (c.fact 67 rfl),
    c_MOST_LEAST := He.int_ok KX G (c.fact 68 rfl),
    c_MOST_LENGTH := He.int_ok KX G (c.fact 69 rfl),
    c_MOST_MORE := He.int_ok KX G (c.fact 70 rfl),
    c_MOST_PLACES := He.int_ok KX G (c.fact 71 rfl),
    c_MOST_SEEN := He.int_ok KX G (c.fact 72 rfl),
    c_MOST_SIGNS := He.int_ok KX G (c.fact 73 rfl),
    c_MOST_TEXT := He.int_ok KX G (c.fact 74 rfl),
    c_MOST_WINDOW := He.int_ok KX G (c.fact 75 rfl),
    c_MOST_WORDS := He.int_ok KX G (c.fact 76 rfl),
    c_NONE := He.str_ok KX G (c.fact 77 rfl),
    c_RULE := He.str_ok KX G (c.fact 78 rfl),
    c_WORD := He.str_ok KX G (c.fact 79 rfl),
    cl := He.cls_ok (c.fact 80 rfl),
    e_BadLengths := excF_of (c.fact 81 rfl) (He.glo_ok KX G (c.fact 43 rfl)),
    e_BadNumber := excF_of (c.fact 82 rfl) (He.glo_ok KX G (c.fact 45 rfl)),
    e_BadSigns := excF_of (c.fact 83 rfl) (He.glo_ok KX G (c.fact 41 rfl)),
    e_BadText := excF_of (c.fact 84 rfl) (He.glo_ok KX G (c.fact 44 rfl)),
    e_BadWindow := excF_of (c.fact 85 rfl) (He.glo_ok KX G (c.fact 42 rfl)),
    e_TooMany := excF_of (c.fact 86 rfl) (He.glo_ok KX G (c.fact 47 rfl)),
    e_Unlike := excF_of (c.fact 87 rfl) (He.glo_ok KX G (c.fact 46 rfl)),
    et := ⟨List.forall_mem_cons.mpr ⟨He.glo_ok KX G (c.fact 40 rfl), List.forall_mem_cons.mpr ⟨He.glo_ok KX G (c.fact 41 rfl), List.forall_mem_cons.mpr ⟨He.glo_ok KX G (c.fact 42 rfl), List.forall_mem_cons.mpr ⟨He.glo_ok KX G (c.fact 43 rfl), List.forall_mem_cons.mpr ⟨He.glo_ok KX G (c.fact 44 rfl), List.forall_mem_cons.mpr ⟨He.glo_ok KX G (c.fact 45 rfl), List.forall_mem_cons.mpr ⟨He.glo_ok KX G (c.fact 46 rfl), List.forall_mem_cons.mpr ⟨He.glo_ok KX G (c.fact 47 rfl), List.forall_mem_cons.mpr ⟨He.glo_ok KX G (c.fact 48 rfl), List.forall_mem_cons.mpr ⟨He.glo_ok KX G (c.fact 49 rfl), List.forall_mem_cons.mpr ⟨He.glo_ok KX G (c.fact 50 rfl), List.forall_mem_nil _⟩⟩⟩⟩⟩⟩⟩⟩⟩⟩⟩, E.m, E.i, E.k, by decide⟩,
    g_BEGIN := He.glo_ok KX G (c.fact 88 rfl),
    g_Rule := He.glo_ok KX G (c.fact 51 rfl),
    it := errB_ok (Bool.and_eq_true_iff.mp hx0).2,
    ki_bool := E.ki _ (by decide),
    ki_int := E.ki _ (by decide),
    ki_tuple := E.ki _ (by decide),
    na_high := He.noat_ok (c.fact 89 rfl),
    na_low := He.noat_ok (c.fact 90 rfl),
    na_many := He.noat_ok (c.fact 91 rfl),
    na_rows := He.noat_ok (c.fact 92 rfl),
    na_wide := He.noat_ok (c.fact 93 rfl),
    r_BEGIN := E.rp _ (List.mem_singleton.mpr rfl),
    ri := E.ri (He.cls_ok (c.fact 80 rfl)),
    x_BadLine := xB_ok (hxx ("BadLine", ["line", "word"]) (by decide)) (He.glo_ok KX G (c.fact 50 rfl)),
    x_BadSeen := xB_ok (hxx ("BadSeen", ["index"]) (by decide)) (He.glo_ok KX G (c.fact 49 rfl)),
    x_BadWords := xB_ok (hxx ("BadWords", ["index"]) (by decide)) (He.glo_ok KX G (c.fact 48 rfl)),
    xt := List.forall_mem_cons.mpr ⟨⟨by decide, (xB_ok (hxx ("BadWords", ["index"]) (by decide)) (He.glo_ok KX G (c.fact 48 rfl))).nf⟩, List.forall_mem_cons.mpr ⟨⟨by decide, (xB_ok (hxx ("BadSeen", ["index"]) (by decide)) (He.glo_ok KX G (c.fact 49 rfl))).nf⟩, List.forall_mem_cons.mpr ⟨⟨by decide, (xB_ok (hxx ("BadLine", ["line", "word"]) (by decide)) (He.glo_ok KX G (c.fact 50 rfl))).nf⟩, List.forall_mem_nil _⟩⟩⟩ }
theorem sc_draws : FnScope ["_law_script"] ["_law_script"] (defScope (top 69)) := ⟨rfl, rfl, rfl, by decide +kernel, rfl, by decide +kernel, by decide +kernel⟩
theorem ok_draws {P : Program} {w : World} {K : PySem.W.Frag} {mg : Str → Option Value} {base : Heap} {f : Addr} {fd : FuncData} (hl : mg "list" = none) (F : FunD K "_law_draws" "_law_draws" (defArgs (top 69)) (defBody (top 69)) (defScope (top 69)) [] [] f fd) : FnOk P w K mg base (L2.CX P w) 1 f fd ["_law_script"] (spDraws K) := by
  refine F.ok sc_draws (fun vs H Q E h => ?_) (fun cdv A outer s H vs Q E hr h => ⟨_, pss_one (ps_ret (pe_lst (pa_cons (pe_callTy call_list_of rfl hl (by decide +kernel) (pa_cons (pe_var (i := 0) rfl (Or.inl rfl)) pa_nil) (by decide) (by decide)) (pa_cons pe_int (pa_cons pe_int (pa_cons pe_int pa_nil)))))), ?_⟩)
  · obtain ⟨a, ns, rfl, _⟩ := h
    rfl
  · obtain ⟨a, ns, rfl, hS, hl, q⟩ := h
    refine ⟨.ref a, rfl, a, _, rfl, .inl hS, fun L hL => ⟨by show 4 ≤ sizeLine; decide, fun r hr => q L r hL hr⟩⟩
theorem ok_law {P : Program} {w : World} {K : PySem.W.Frag} {mg : Str → Option Value} {base : Heap} {ok : List Int → Prop} {f fD : Addr} {fd fdD : FuncData} (FS : Facts K mg) (G__law_kinds : Fn P w K mg base "_law_kinds" 1 1 F__law_kinds) (G__law_pick : Fn P w K mg base "_law_pick" 1 2 F__law_pick) (G__law_raised : Fn P w K mg base "_law_raised" 7 1 F__law_raised) (F : FunD K "law" "law" (defArgs (top 73)) (defBody (top 73)) (defScope (top 73)) [] [] f fd)
    (FD : FunD K "_law_draws" "_law_draws" (defArgs (top 69)) (defBody (top 69)) (defScope (top 69)) [] [] fD fdD) (hD : mg "_law_draws" = some (.ref fD)) (hm : ∀ ns, ok ns → ∃ e, m_law ⟨.no :: .val .row :: List.replicate 3 .no, row0 ns⟩ = .ok (.rt (.bl true)) e) : FnOk P w K mg base (L2.CX P w) 8 f fd ["_law_script"] (spLaw K ok) := by
  have GD : FnOk P w K mg base (L2.CX P w) 1 fD fdD ["_law_script"] (spDraws K) := ok_draws FS.b_list FD
  have bD : Binds K fdD ["_law_script"] [] := FD.bindsN fun _ _ _ _ _ _ us hl => match us, hl with | [_], _ => rfl
  refine F.ok sc_law (fun vs H Q E h => ?_) (fun cdv A outer s H vs Q E hr h => ⟨_, pss_cons (ps_set (i := 1) sc_law.nd rfl (by first | exact Or.inl rfl | exact Or.inr rfl) (pe_call GD (hr.mono (by decide)) rfl hD FD.kp bD .nil passL (pa_cons (pe_var (i := 0) rfl (Or.inl rfl)) pa_nil))) (w_law FS G__law_kinds G__law_pick G__law_raised hr (takes_of rfl rfl rfl rfl)), law_read rfl hm h⟩)
  obtain ⟨a, ns, rfl, _⟩ := h
  rfl
abbrev R : PySem.W.OpenRow := PySem.W.OpenLaw.row PySem.Challenge.rw_cutsagain_k19_errors_apart
abbrev hk : PySem.W.Hook := hookM 4 fa fn exA
def ob (s : PySem.W.SharedT) : AlM := obsMG 4 fa fn exA (HandSHeadRun.getT s)
theorem ob_eq (s : PySem.W.SharedT) : ob s = hk.obs s.abs := obsMG_eq (HandSHeadRun.getT_eq s)
def loose1 : List PySem.Str := ["is_from", "is_word", "check_shape", "check_lengths", "parts_of", "are_signs", "is_text", "check_text", "step_of", "stands_of", "cuts_of", "cuts", "counts_of", "check_places", "first_cuts", "begins_of", "is_before", "grown_on", "longest_of", "parting", "alike", "all_words", "check_small", "sets_of", "is_short", "fewest_words", "number_in", "head_in", "word_in", "read"]
def loose2_2 : List PySem.Str := ["is_seen", "check_seen", "subsets_of", "does_fit", "fitting", "_law_draws", "_law_pick", "_law_raised", "_law_kinds", "CutError", "BadSigns", "BadWindow", "BadLengths", "BadText", "BadNumber", "Unlike", "TooMany", "BadWords", "BadSeen", "BadLine", "Rule", "MOST_SIGNS", "MOST_WINDOW", "MOST_LENGTH", "MOST_LEAST", "MOST_TEXT", "BEGIN", "MOST_PLACES", "MOST_WORDS", "MOST_MORE"]
def loose2_3 : List PySem.Str := ["MOST_GOAL", "RULE", "WORD", "NONE", "MOST_SEEN", "__name__"]
def loose2 : List PySem.Str := loose2_2 ++ loose2_3
theorem run (w : World) : HandSHeadRun.RunEq R (PySem.W.view R.prog [73]) hk ob 16000 (loose1 ++ loose2) w := by
  intro os
  kernel_rfl
theorem facts {P : Program} {w : World} {K : PySem.W.Frag} {h : Heap} {mg : Str → Option Value} {f : Addr} {ok : List Int → Prop} (KX : K.In h) (G : h.Ns mainGlobals mg) (hfa : mg ("law" : Str) = some (.ref f)) (c : He.SaysD fa fn K) (hx : exA K = true) (hm : ∀ ns, ok ns → ∃ e, m_law ⟨.no :: .val .row :: List.replicate 3 .no, row0 ns⟩ = .ok (.rt (.bl true)) e) :
    ∃ fd : FuncData, (∀ (s : Shared) (v : Value), BindsTo s fd ⟨[v], []⟩ [("_law_script", v)]) ∧ ∀ base : Heap, K.In base → base.Ns mainGlobals mg → FnOk P w K mg base (L2.CX P w) 8 f fd ["_law_script"] (spLaw K ok) := by
  have FS := facts_of KX G c hx
  obtain ⟨fd__law_kinds, FD__law_kinds⟩ := c.def_ 38 (d := d__law_kinds) rfl
  have G__law_kinds := fun (base : Heap) => f__law_kinds (P := P) (w := w) (base := base) FS  FD__law_kinds (He.glo_ok KX G (c.fact 38 rfl)) (FD__law_kinds.bindsN fun _ _ _ _ _ _ us hl => match us, hl with | [_], _ => rfl)
  obtain ⟨fd__law_pick, FD__law_pick⟩ := c.def_ 36 (d := d__law_pick) rfl
  have G__law_pick := fun (base : Heap) => f__law_pick (P := P) (w := w) (base := base) FS  FD__law_pick (He.glo_ok KX G (c.fact 36 rfl)) (FD__law_pick.bindsN fun _ _ _ _ _ _ us hl => match us, hl with | [_, _], _ => rfl)
  obtain ⟨fd_BadWords, FD_BadWords⟩ := c.def_ 41 (d := d_BadWords) rfl
  have G_BadWords := fun (base : Heap) => xinit1 (P := P) (w := w) (base := base) (qual := "BadWords.__init__") FS.x_BadWords FD_BadWords (⟨rfl, rfl, rfl, by decide +kernel, rfl, by decide +kernel, by decide +kernel⟩ : FnScope ["self", "index"] ["self", "index"] (defScope (inClass (top 9) 0))) (FD_BadWords.bindsN fun _ _ _ _ _ _ us hl => match us, hl with | [_, _], _ => rfl) (by decide) (by decide) (by decide) (by decide) (fun _ _ _ _ _ _ => Or.inl rfl) (fun _ _ _ _ _ _ => Or.inl rfl) (fun _ _ _ _ _ _ => rfl)
  obtain ⟨fd_is_from, FD_is_from⟩ := c.def_ 0 (d := d_is_from) rfl
  have G_is_from := fun (base : Heap) => f_is_from (P := P) (w := w) (base := base) FS  FD_is_from (He.glo_ok KX G (c.fact 0 rfl)) (FD_is_from.bindsN fun _ _ _ _ _ _ us hl => match us, hl with | [_, _, _], _ => rfl)
  obtain ⟨fd_check_lengths, FD_check_lengths⟩ := c.def_ 3 (d := d_check_lengths) rfl
  have G_check_lengths := fun (base : Heap) => f_check_lengths (P := P) (w := w) (base := base) FS (G_is_from base) FD_check_lengths (He.glo_ok KX G (c.fact 3 rfl)) (FD_check_lengths.bindsN fun _ _ _ _ _ _ us hl => match us, hl with | [_, _], _ => rfl)
  obtain ⟨fd_check_shape, FD_check_shape⟩ := c.def_ 2 (d := d_check_shape) rfl
  have G_check_shape := fun (base : Heap) => f_check_shape (P := P) (w := w) (base := base) FS (G_is_from base) FD_check_shape (He.glo_ok KX G (c.fact 2 rfl)) (FD_check_shape.bindsN fun _ _ _ _ _ _ us hl => match us, hl with | [_, _], _ => rfl)
  obtain ⟨fd_is_word, FD_is_word⟩ := c.def_ 1 (d := d_is_word) rfl
  have G_is_word := fun (base : Heap) => f_is_word (P := P) (w := w) (base := base) FS (G_is_from base) FD_is_word (He.glo_ok KX G (c.fact 1 rfl)) (FD_is_word.bindsN fun _ _ _ _ _ _ us hl => match us, hl with | [_, _, _], _ => rfl)
  obtain ⟨fd_Rule, FD_Rule⟩ := c.def_ 40 (d := d_Rule) rfl
  have G_Rule := fun (base : Heap) => f_Rule (P := P) (w := w) (base := base) FS (G_BadWords base) (G_check_lengths base) (G_check_shape base) (G_is_word base) FD_Rule (He.glo_ok KX G (c.fact 51 rfl)) (FD_Rule.bindsN fun _ _ _ _ _ _ us hl => match us, hl with | [_, _, _, _, _, _], _ => rfl) (He.mkr_ok (c.fact 94 rfl))
  obtain ⟨fd_step_of, FD_step_of⟩ := c.def_ 8 (d := d_step_of) rfl
  have G_step_of := fun (base : Heap) => f_step_of (P := P) (w := w) (base := base) FS  FD_step_of (He.glo_ok KX G (c.fact 8 rfl)) (FD_step_of.bindsN fun _ _ _ _ _ _ us hl => match us, hl with | [_, _, _], _ => rfl)
  obtain ⟨fd_parting, FD_parting⟩ := c.def_ 19 (d := d_parting) rfl
  have G_parting := fun (base : Heap) => f_parting (P := P) (w := w) (base := base) FS (G_step_of base) FD_parting (He.glo_ok KX G (c.fact 19 rfl)) (FD_parting.bindsN fun _ _ _ _ _ _ us hl => match us, hl with | [_, _], _ => rfl)
  obtain ⟨fd_alike, FD_alike⟩ := c.def_ 20 (d := d_alike) rfl
  have G_alike := fun (base : Heap) => f_alike (P := P) (w := w) (base := base) FS (G_parting base) FD_alike (He.glo_ok KX G (c.fact 20 rfl)) (FD_alike.bindsN fun _ _ _ _ _ _ us hl => match us, hl with | [_, _], _ => rfl)
  obtain ⟨fd_are_signs, FD_are_signs⟩ := c.def_ 5 (d := d_are_signs) rfl
  have G_are_signs := fun (base : Heap) => f_are_signs (P := P) (w := w) (base := base) FS (G_is_from base) FD_are_signs (He.glo_ok KX G (c.fact 5 rfl)) (FD_are_signs.bindsN fun _ _ _ _ _ _ us hl => match us, hl with | [_, _], _ => rfl)
  obtain ⟨fd_is_text, FD_is_text⟩ := c.def_ 6 (d := d_is_text) rfl
  have G_is_text := fun (base : Heap) => f_is_text (P := P) (w := w) (base := base) FS (G_are_signs base) FD_is_text (He.glo_ok KX G (c.fact 6 rfl)) (FD_is_text.bindsN fun _ _ _ _ _ _ us hl => match us, hl with | [_, _], _ => rfl)
  obtain ⟨fd_check_text, FD_check_text⟩ := c.def_ 7 (d := d_check_text) rfl
  have G_check_text := fun (base : Heap) => f_check_text (P := P) (w := w) (base := base) FS (G_is_text base) FD_check_text (He.glo_ok KX G (c.fact 7 rfl)) (FD_check_text.bindsN fun _ _ _ _ _ _ us hl => match us, hl with | [_, _], _ => rfl)
  obtain ⟨fd_cuts_of, FD_cuts_of⟩ := c.def_ 10 (d := d_cuts_of) rfl
  have G_cuts_of := fun (base : Heap) => f_cuts_of (P := P) (w := w) (base := base) FS (G_step_of base) FD_cuts_of (He.glo_ok KX G (c.fact 10 rfl)) (FD_cuts_of.bindsN fun _ _ _ _ _ _ us hl => match us, hl with | [_, _], _ => rfl)
  obtain ⟨fd_cuts, FD_cuts⟩ := c.def_ 11 (d := d_cuts) rfl
  have G_cuts := fun (base : Heap) => f_cuts (P := P) (w := w) (base := base) FS (G_check_text base) (G_cuts_of base) FD_cuts (He.glo_ok KX G (c.fact 11 rfl)) (FD_cuts.bindsN fun _ _ _ _ _ _ us hl => match us, hl with | [_, _], _ => rfl)
  obtain ⟨fd_all_words, FD_all_words⟩ := c.def_ 21 (d := d_all_words) rfl
  have G_all_words := fun (base : Heap) => f_all_words (P := P) (w := w) (base := base) FS  FD_all_words (He.glo_ok KX G (c.fact 21 rfl)) (FD_all_words.bindsN fun _ _ _ _ _ _ us hl => match us, hl with | [_, _], _ => rfl)
  obtain ⟨fd_check_small, FD_check_small⟩ := c.def_ 22 (d := d_check_small) rfl
  have G_check_small := fun (base : Heap) => f_check_small (P := P) (w := w) (base := base) FS (G_all_words base) FD_check_small (He.glo_ok KX G (c.fact 22 rfl)) (FD_check_small.bindsN fun _ _ _ _ _ _ us hl => match us, hl with | [_, _], _ => rfl)
  obtain ⟨fd_stands_of, FD_stands_of⟩ := c.def_ 9 (d := d_stands_of) rfl
  have G_stands_of := fun (base : Heap) => f_stands_of (P := P) (w := w) (base := base) FS (G_step_of base) FD_stands_of (He.glo_ok KX G (c.fact 9 rfl)) (FD_stands_of.bindsN fun _ _ _ _ _ _ us hl => match us, hl with | [_], _ => rfl)
  obtain ⟨fd_begins_of, FD_begins_of⟩ := c.def_ 15 (d := d_begins_of) rfl
  have G_begins_of := fun (base : Heap) => f_begins_of (P := P) (w := w) (base := base) FS (G_stands_of base) FD_begins_of (He.glo_ok KX G (c.fact 15 rfl)) (FD_begins_of.bindsN fun _ _ _ _ _ _ us hl => match us, hl with | [_], _ => rfl)
  obtain ⟨fd_is_before, FD_is_before⟩ := c.def_ 16 (d := d_is_before) rfl
  have G_is_before := fun (base : Heap) => f_is_before (P := P) (w := w) (base := base) FS  FD_is_before (He.glo_ok KX G (c.fact 16 rfl)) (FD_is_before.bindsN fun _ _ _ _ _ _ us hl => match us, hl with | [_, _], _ => rfl)
  obtain ⟨fd_grown_on, FD_grown_on⟩ := c.def_ 17 (d := d_grown_on) rfl
  have G_grown_on := fun (base : Heap) => f_grown_on (P := P) (w := w) (base := base) FS (G_is_before base) (G_step_of base) FD_grown_on (He.glo_ok KX G (c.fact 17 rfl)) (FD_grown_on.bindsN fun _ _ _ _ _ _ us hl => match us, hl with | [_, _], _ => rfl)
  obtain ⟨fd_longest_of, FD_longest_of⟩ := c.def_ 18 (d := d_longest_of) rfl
  have G_longest_of := fun (base : Heap) => f_longest_of (P := P) (w := w) (base := base) FS (G_begins_of base) (G_grown_on base) (G_stands_of base) FD_longest_of (He.glo_ok KX G (c.fact 18 rfl)) (FD_longest_of.bindsN fun _ _ _ _ _ _ us hl => match us, hl with | [_], _ => rfl)
  obtain ⟨fd_is_short, FD_is_short⟩ := c.def_ 24 (d := d_is_short) rfl
  have G_is_short := fun (base : Heap) => f_is_short (P := P) (w := w) (base := base) FS (G_Rule base) (G_longest_of base) FD_is_short (He.glo_ok KX G (c.fact 24 rfl)) (FD_is_short.bindsN fun _ _ _ _ _ _ us hl => match us, hl with | [_, _, _], _ => rfl)
  obtain ⟨fd_sets_of, FD_sets_of⟩ := c.def_ 23 (d := d_sets_of) rfl
  have G_sets_of := fun (base : Heap) => f_sets_of (P := P) (w := w) (base := base) FS  FD_sets_of (He.glo_ok KX G (c.fact 23 rfl)) (FD_sets_of.bindsN fun _ _ _ _ _ _ us hl => match us, hl with | [_, _], _ => rfl)
  obtain ⟨fd_fewest_words, FD_fewest_words⟩ := c.def_ 25 (d := d_fewest_words) rfl
  have G_fewest_words := fun (base : Heap) => f_fewest_words (P := P) (w := w) (base := base) FS (G_all_words base) (G_check_small base) (G_is_from base) (G_is_short base) (G_sets_of base) FD_fewest_words (He.glo_ok KX G (c.fact 25 rfl)) (FD_fewest_words.bindsN fun _ _ _ _ _ _ us hl => match us, hl with | [_, _, _], _ => rfl)
  obtain ⟨fd_check_places, FD_check_places⟩ := c.def_ 13 (d := d_check_places) rfl
  have G_check_places := fun (base : Heap) => f_check_places (P := P) (w := w) (base := base) FS (G_is_from base) FD_check_places (He.glo_ok KX G (c.fact 13 rfl)) (FD_check_places.bindsN fun _ _ _ _ _ _ us hl => match us, hl with | [_], _ => rfl)
  obtain ⟨fd_counts_of, FD_counts_of⟩ := c.def_ 12 (d := d_counts_of) rfl
  have G_counts_of := fun (base : Heap) => f_counts_of (P := P) (w := w) (base := base) FS (G_step_of base) FD_counts_of (He.glo_ok KX G (c.fact 12 rfl)) (FD_counts_of.bindsN fun _ _ _ _ _ _ us hl => match us, hl with | [_, _], _ => rfl)
  obtain ⟨fd_first_cuts, FD_first_cuts⟩ := c.def_ 14 (d := d_first_cuts) rfl
  have G_first_cuts := fun (base : Heap) => f_first_cuts (P := P) (w := w) (base := base) FS (G_check_places base) (G_counts_of base) FD_first_cuts (He.glo_ok KX G (c.fact 14 rfl)) (FD_first_cuts.bindsN fun _ _ _ _ _ _ us hl => match us, hl with | [_, _], _ => rfl)
  obtain ⟨fd_BadSeen, FD_BadSeen⟩ := c.def_ 42 (d := d_BadSeen) rfl
  have G_BadSeen := fun (base : Heap) => xinit1 (P := P) (w := w) (base := base) (qual := "BadSeen.__init__") FS.x_BadSeen FD_BadSeen (⟨rfl, rfl, rfl, by decide +kernel, rfl, by decide +kernel, by decide +kernel⟩ : FnScope ["self", "index"] ["self", "index"] (defScope (inClass (top 10) 0))) (FD_BadSeen.bindsN fun _ _ _ _ _ _ us hl => match us, hl with | [_, _], _ => rfl) (by decide) (by decide) (by decide) (by decide) (fun _ _ _ _ _ _ => Or.inl rfl) (fun _ _ _ _ _ _ => Or.inl rfl) (fun _ _ _ _ _ _ => rfl)
  obtain ⟨fd_is_seen, FD_is_seen⟩ := c.def_ 30 (d := d_is_seen) rfl
  have G_is_seen := fun (base : Heap) => f_is_seen (P := P) (w := w) (base := base) FS (G_is_from base) (G_is_text base) FD_is_seen (He.glo_ok KX G (c.fact 30 rfl)) (FD_is_seen.bindsN fun _ _ _ _ _ _ us hl => match us, hl with | [_, _], _ => rfl)
  obtain ⟨fd_check_seen, FD_check_seen⟩ := c.def_ 31 (d := d_check_seen) rfl
  have G_check_seen := fun (base : Heap) => f_check_seen (P := P) (w := w) (base := base) FS (G_BadSeen base) (G_is_seen base) FD_check_seen (He.glo_ok KX G (c.fact 31 rfl)) (FD_check_seen.bindsN fun _ _ _ _ _ _ us hl => match us, hl with | [_, _], _ => rfl)
  obtain ⟨fd_does_fit, FD_does_fit⟩ := c.def_ 33 (d := d_does_fit) rfl
  have G_does_fit := fun (base : Heap) => f_does_fit (P := P) (w := w) (base := base) FS (G_cuts_of base) FD_does_fit (He.glo_ok KX G (c.fact 33 rfl)) (FD_does_fit.bindsN fun _ _ _ _ _ _ us hl => match us, hl with | [_, _], _ => rfl)
  obtain ⟨fd_subsets_of, FD_subsets_of⟩ := c.def_ 32 (d := d_subsets_of) rfl
  have G_subsets_of := fun (base : Heap) => f_subsets_of (P := P) (w := w) (base := base) FS  FD_subsets_of (He.glo_ok KX G (c.fact 32 rfl)) (FD_subsets_of.bindsN fun _ _ _ _ _ _ us hl => match us, hl with | [_], _ => rfl)
  obtain ⟨fd_fitting, FD_fitting⟩ := c.def_ 34 (d := d_fitting) rfl
  have G_fitting := fun (base : Heap) => f_fitting (P := P) (w := w) (base := base) FS (G_Rule base) (G_all_words base) (G_check_lengths base) (G_check_seen base) (G_check_shape base) (G_check_small base) (G_does_fit base) (G_subsets_of base) FD_fitting (He.glo_ok KX G (c.fact 34 rfl)) (FD_fitting.bindsN fun _ _ _ _ _ _ us hl => match us, hl with | [_, _, _, _, _], _ => rfl)
  obtain ⟨fd_BadLine, FD_BadLine⟩ := c.def_ 43 (d := d_BadLine) rfl
  have G_BadLine := fun (base : Heap) => xinit2 (P := P) (w := w) (base := base) (qual := "BadLine.__init__") FS.x_BadLine FD_BadLine (⟨rfl, rfl, rfl, by decide +kernel, rfl, by decide +kernel, by decide +kernel⟩ : FnScope ["self", "line", "word"] ["self", "line", "word"] (defScope (inClass (top 11) 0))) (FD_BadLine.bindsN fun _ _ _ _ _ _ us hl => match us, hl with | [_, _, _], _ => rfl) (by decide) (by decide) (by decide) (by decide) (by decide) (by decide) (fun _ _ _ _ _ _ => Or.inl rfl) (fun _ _ _ _ _ _ => Or.inl rfl) (fun _ _ _ _ _ _ => Or.inl rfl) (fun _ _ _ _ _ _ => rfl) (fun _ _ _ _ _ _ => rfl)
  obtain ⟨fd_number_in, FD_number_in⟩ := c.def_ 26 (d := d_number_in) rfl
  have G_number_in := fun (base : Heap) => f_number_in (P := P) (w := w) (base := base) FS (G_BadLine base) FD_number_in (He.glo_ok KX G (c.fact 26 rfl)) (FD_number_in.bindsN fun _ _ _ _ _ _ us hl => match us, hl with | [_, _, _, _, _], _ => rfl)
  obtain ⟨fd_head_in, FD_head_in⟩ := c.def_ 27 (d := d_head_in) rfl
  have G_head_in := fun (base : Heap) => f_head_in (P := P) (w := w) (base := base) FS (G_BadLine base) (G_number_in base) FD_head_in (He.glo_ok KX G (c.fact 27 rfl)) (FD_head_in.bindsN fun _ _ _ _ _ _ us hl => match us, hl with | [_], _ => rfl)
  obtain ⟨fd_word_in, FD_word_in⟩ := c.def_ 28 (d := d_word_in) rfl
  have G_word_in := fun (base : Heap) => f_word_in (P := P) (w := w) (base := base) FS (G_BadLine base) (G_number_in base) FD_word_in (He.glo_ok KX G (c.fact 28 rfl)) (FD_word_in.bindsN fun _ _ _ _ _ _ us hl => match us, hl with | [_, _, _, _], _ => rfl)
  obtain ⟨fd_read, FD_read⟩ := c.def_ 29 (d := d_read) rfl
  have G_read := fun (base : Heap) => f_read (P := P) (w := w) (base := base) FS (G_BadLine base) (G_Rule base) (G_head_in base) (G_word_in base) FD_read (He.glo_ok KX G (c.fact 29 rfl)) (FD_read.bindsN fun _ _ _ _ _ _ us hl => match us, hl with | [_], _ => rfl)
  obtain ⟨fd__law_raised, FD__law_raised⟩ := c.def_ 37 (d := d__law_raised) rfl
  have G__law_raised := fun (base : Heap) => f__law_raised (P := P) (w := w) (base := base) FS (G_Rule base) (G_alike base) (G_cuts base) (G_fewest_words base) (G_first_cuts base) (G_fitting base) (G_read base) FD__law_raised (He.glo_ok KX G (c.fact 37 rfl)) (FD__law_raised.bindsN fun _ _ _ _ _ _ us hl => match us, hl with | [_], _ => rfl)
  obtain ⟨fdD, FD⟩ := c.def_ 35 (d := d__law_draws) rfl
  obtain ⟨fd, F⟩ := c.def_ 39 (d := d_law) rfl
  have e := hfa.symm.trans (He.glo_ok KX G (c.fact 39 (f := .glo "law") rfl))
  cases e
  have b := FunD.bindsA (ps := ["_law_script"]) F fun _ _ _ _ _ _ us hl => match us, hl with | [_], _ => rfl
  exact ⟨fd, fun s v => b s [v] rfl, fun base _ _ => ok_law FS (G__law_kinds base) (G__law_pick base) (G__law_raised base) F FD (He.glo_ok KX G (c.fact 35 rfl)) hm⟩
theorem holds (hm : ∀ ns : List Int, ns.length ≤ 63 → ∃ e, m_law ⟨.no :: .val .row :: List.replicate 3 .no, row0 ns⟩ = .ok (.rt (.bl true)) e) : PySem.Challenge.rw_cutsagain_k19_errors_apart.Holds := by
  w_on; o_law
  refine HandSHeadRun.head_any (r := PySem.W.OpenLaw.row PySem.Challenge.rw_cutsagain_k19_errors_apart) (q := PySem.W.view (PySem.W.OpenLaw.row PySem.Challenge.rw_cutsagain_k19_errors_apart).prog [73]) (H := hk) (ob := ob) (M := 16000) (loose := loose1 ++ loose2) (d := HandSHeadRun.topDef (PySem.W.OpenLaw.row PySem.Challenge.rw_cutsagain_k19_errors_apart).prog 73) (kwd := []) ob_eq
    (by kernel_rfl) (fun s => by kernel_rfl) run (by kernel_rfl) (by kernel_rfl) (by kernel_rfl) (by rfl) (by first | assumption | decide +kernel) (by decide +kernel) ⟨rfl, rfl, rfl, rfl, rfl, by decide +kernel⟩ ?hw ?hc
  case hw => w_witness2
  case hc =>
    refine L2.walk_ofE (l := PySem.Challenge.rw_cutsagain_k19_errors_apart) (n := 63) (k := 8) (x := "_law_script") (CX := CXA (PySem.Challenge.rw_cutsagain_k19_errors_apart).prog) rfl (by decide) (by kernel_rfl) ⟨rfl, by decide, by decide⟩ ?F CXA.no
    case F =>
      intro w mg fa h Y G hmg0
      obtain ⟨K, KX, c, hx⟩ := Y
      have hmg : mg ("law" : PySem.Str) = some (.ref fa) := by
        have e : (HandSHeadRun.topDef (PySem.W.OpenLaw.row PySem.Challenge.rw_cutsagain_k19_errors_apart).prog 73).name = ("law" : PySem.Str) := by kernel_rfl
        rw [← e]
        exact hmg0
      obtain ⟨fd, hb, hF⟩ := facts (P := (PySem.Challenge.rw_cutsagain_k19_errors_apart).prog) (w := w) KX G hmg c hx hm
      exact ⟨K, fd, spLaw K (fun ns => ns.length ≤ 63), KX, hb, fun H a ns hl _ hS => ⟨a, ns, rfl, hS, by omega, hl, fun _ => rfl⟩, fun base hb1 hb2 => FnOk.any (hF base hb1 hb2)⟩
end Cut


set_option Elab.async false
set_option linter.all false
set_option maxRecDepth 100000
set_option maxHeartbeats 1000000
/-! Plain, part 1: operators on data that are told. -/
namespace Cut
open PySem Mi
open L2 (atI ixN atI_nat)
@[simp] theorem set_ok {i : Nat} {s : Slot} {sl : List Slot} {row : RowS} (h : i < sl.length) : setR i s sl row = .ok () ⟨sl.set i s, row⟩ := if_pos h
@[simp] theorem sml_ok {α : Type} {l : List α} (h : l.length ≤ 1000000) (e : Mi.Env) : small l e = .ok () e := if_pos h
/-! numbers -/
@[simp] theorem add_ii (i j : Int) : addF (.int i) (.int j) = some (.int (i + j)) := rfl
@[simp] theorem sub_ii (i j : Int) : subF (.int i) (.int j) = some (.int (i - j)) := rfl
@[simp] theorem augadd_ii (i j : Int) : intF (fun _ _ => true) (fun x1 x2 => x1 + x2) (.int i) (.int j) = some (.int (i + j)) := rfl
@[simp] theorem augsub_ii (i j : Int) : intF (fun _ _ => true) (fun x1 x2 => x1 - x2) (.int i) (.int j) = some (.int (i - j)) := rfl
@[simp] theorem ge_ii (i j : Int) : geF (.int i) (.int j) = some (.bl (decide (j ≤ i))) := rfl
@[simp] theorem le_ii (i j : Int) : ordF .le (.int i) (.int j) = some (.bl (decide (i ≤ j))) := rfl
@[simp] theorem lt_ii (i j : Int) : ordF .lt (.int i) (.int j) = some (.bl (decide (i < j))) := rfl
@[simp] theorem gt_ii (i j : Int) : ordF .gt (.int i) (.int j) = some (.bl (decide (j < i))) := rfl
@[simp] theorem eq_ii (i j : Int) : eqF (.int i) (.int j) = some (.bl (decide (i = j))) := by
  show some (D.bl (i == j)) = _
  rfl
@[simp] theorem ne_ii (i j : Int) : neF (.int i) (.int j) = some (.bl (!decide (i = j))) := by
  show some (D.bl (!(i == j))) = _
  rfl
@[simp] theorem eq_in (i : Int) : eqF (.int i) .non = some (.bl false) := rfl
@[simp] theorem isN_int (i : Int) : isNF (.int i) = some (.bl false) := rfl
@[simp] theorem isN_non : isNF .non = some (.bl true) := rfl
@[simp] theorem isN_tup (l : List D) : isNF (.tup l) = some (.bl false) := rfl
@[simp] theorem notN_int (i : Int) : notNF (.int i) = some (.bl true) := rfl
@[simp] theorem notN_non : notNF .non = some (.bl false) := rfl
@[simp] theorem notN_tup (l : List D) : notNF (.tup l) = some (.bl true) := rfl
@[simp] theorem toInt_i (i : Int) : toIntF (.int i) = some (.int i) := rfl
@[simp] theorem toInt_b (b : Bool) : toIntF (.bl b) = some (.int (if b then 1 else 0)) := rfl
@[simp] theorem len_t (l : List D) : lenF (.tup l) = some (.int l.length) := rfl
@[simp] theorem len_l (l : List D) : lenF (.lst l) = some (.int l.length) := rfl
@[simp] theorem items_t (l : List D) : D.items (.tup l) = some l := rfl
@[simp] theorem items_l (l : List D) : D.items (.lst l) = some l := rfl
@[simp] theorem itemsD_t (l : List D) : itemsD (.tup l) = some l := rfl
@[simp] theorem itemsD_l (l : List D) : itemsD (.lst l) = some l := rfl
@[simp] theorem enum1_t (l : List D) : enum1D [.tup l] = some (enumL l) := rfl
@[simp] theorem enum1_l (l : List D) : enum1D [.lst l] = some (enumL l) := rfl
@[simp] theorem zipD_ll (l m : List D) : zipD [.lst l, .lst m] = some (zipL l m) := rfl
@[simp] theorem tuple_l (l : List D) : tupleF (.lst l) = some (.tup l) := rfl
@[simp] theorem tuple_t (l : List D) : tupleF (.tup l) = some (.tup l) := rfl
@[simp] theorem listO_l (l : List D) : listO (.lst l) = some (.lst l) := rfl
@[simp] theorem listO_t (l : List D) : listO (.tup l) = some (.lst l) := rfl
@[simp] theorem fld0 (a : D) (l : List D) : fldF 0 (.obj (a :: l)) = some a := rfl
@[simp] theorem fld1 (a b : D) (l : List D) : fldF 1 (.obj (a :: b :: l)) = some b := rfl
@[simp] theorem fld2 (a b c : D) (l : List D) : fldF 2 (.obj (a :: b :: c :: l)) = some c := rfl
@[simp] theorem fld3 (a b c d : D) (l : List D) : fldF 3 (.obj (a :: b :: c :: d :: l)) = some d := rfl
@[simp] theorem fld4 (a b c d e : D) (l : List D) : fldF 4 (.obj (a :: b :: c :: d :: e :: l)) = some e := rfl
@[simp] theorem min2_ii (i j : Int) : min2F [.int i, .int j] = some (.int (min i j)) := rfl
@[simp] theorem max2_ii (i j : Int) : max2F [.int i, .int j] = some (.int (max i j)) := rfl
@[simp] theorem all_map (l : List Bool) : allF (.lst (l.map D.bl)) = some (.bl (l.all id)) := by simp [allF, blsOf_map]
@[simp] theorem all_comp {α : Type} (g : α → Bool) (l : List α) : allF (.lst (l.map (D.bl ∘ g))) = some (.bl (l.all g)) := by
  rw [← List.map_map, all_map, List.all_map]
  rfl
@[simp] theorem any_map (l : List Bool) : anyF (.lst (l.map D.bl)) = some (.bl (l.any id)) := by simp [anyF, blsOf_map]
@[simp] theorem any_comp {α : Type} (g : α → Bool) (l : List α) : anyF (.lst (l.map (D.bl ∘ g))) = some (.bl (l.any g)) := by
  rw [← List.map_map, any_map, List.any_map]
  rfl
@[simp] theorem chD_ii (o o' : Int → Int → Bool) (i j : Int) (k : M D) (e : Mi.Env) (t : Tag k) : chD o o' (.int i) (.int j) k e t = iteR (o i j) (bindM k fun z => match z with
    | .int l => pureM (.bl (o' j l))
    | _ => errM) (pureM (.bl false)) e := by
  unfold chD iteR
  by_cases c : o i j = true
  · simp only [if_pos c]
    rfl
  · simp only [if_neg c]
    rfl
theorem okI_small {j : Int} (h : -1000000000 ≤ j) (h' : j ≤ 1000000000) : okI j = true := by
  unfold okI
  simp only [decide_eq_true_eq]
  omega
@[simp] theorem okI_nat {n : Nat} (h : n ≤ 1000000000) : okI (n : Int) = true := okI_small (by omega) (by omega)
/-! subscripts -/
@[simp] theorem ix_t (l : List D) (i : Int) : ixF (.tup l) (.int i) = atI l i := rfl
@[simp] theorem ix_l (l : List D) (i : Int) : ixF (.lst l) (.int i) = atI l i := rfl
@[simp] theorem at0 {α : Type} (a : α) (l : List α) : atI (a :: l) 0 = some a := by simp [atI, ixN]
theorem at_nat {α : Type} {l : List α} {n : Nat} {a : α} (h : l[n]? = some a) : atI l (n : Int) = some a := atI_nat h
@[simp] theorem at1 {α : Type} (a b : α) (l : List α) : atI (a :: b :: l) 1 = some b := at_nat (n := 1) rfl
@[simp] theorem at2 {α : Type} (a b c : α) (l : List α) : atI (a :: b :: c :: l) 2 = some c := at_nat (n := 2) rfl
@[simp] theorem at3 {α : Type} (a b c d : α) (l : List α) : atI (a :: b :: c :: d :: l) 3 = some d := at_nat (n := 3) rfl
@[simp] theorem at4 {α : Type} (a b c d e : α) (l : List α) : atI (a :: b :: c :: d :: e :: l) 4 = some e := at_nat (n := 4) rfl
/-! tuples of numbers -/
def iD (l : List Int) : D := .tup (l.map D.int)
def wD (l : List (List Int)) : List D := l.map iD
@[simp] theorem items_iD (l : List Int) : D.items (iD l) = some (l.map D.int) := rfl
@[simp] theorem itemsD_iD (l : List Int) : itemsD (iD l) = some (l.map D.int) := rfl
@[simp] theorem len_iD (l : List Int) : lenF (iD l) = some (.int l.length) := by simp [iD]
@[simp] theorem isi_iD (l : List Int) : isiF "tuple" (iD l) = some (.bl true) := by rfl
@[simp] theorem ix_iD (l : List Int) (i : Int) : ixF (iD l) (.int i) = atI (l.map D.int) i := rfl
@[simp] theorem tup_snoc (l : List Int) (s : Int) : D.tup (l.map D.int ++ [D.int s]) = iD (l ++ [s]) := by simp [iD]
@[simp] theorem enum_iD (l : List Int) : enum1D [iD l] = some (enumL (l.map D.int)) := rfl
theorem eqvs_ints : ∀ a b : List Int, D.eqvs (a.map D.int) (b.map D.int) = decide (a = b)
  | [], [] => rfl
  | [], _ :: _ => rfl
  | _ :: _, [] => rfl
  | x :: a, y :: b => by
    simp only [List.map_cons, D.eqvs, D.eqv, eqvs_ints a b, List.cons.injEq]
    by_cases h : x = y <;> by_cases h' : a = b <;> simp [h, h']
theorem plains_ints (n : Nat) : ∀ a : List Int, D.plains n (a.map D.int) = true
  | [] => by cases n <;> rfl
  | x :: a => by
    simp only [List.map_cons, D.plains, plains_ints n a, Bool.and_true]
    cases n <;> rfl
@[simp] theorem plain_iD (n : Nat) (a : List Int) : (iD a).plain (n + 1) = true := plains_ints n a
theorem eqv_iD (a b : List Int) : (iD a).eqv (iD b) = decide (a = b) := eqvs_ints a b
theorem plains_wD (n : Nat) : ∀ a : List (List Int), D.plains (n + 1) (wD a) = true
  | [] => rfl
  | x :: a => by
    show (D.plain (n + 1) (iD x) && D.plains (n + 1) (wD a)) = true
    rw [plain_iD, plains_wD n a]
    rfl
@[simp] theorem in_w (a : List Int) (l : List (List Int)) : inF false (iD a) (.tup (wD l)) = some (.bl (decide (a ∈ l))) := by
  simp only [inF, plain_iD, plains_wD, Bool.and_self, if_true, Bool.false_eq_true, if_false]
  congr 2
  unfold wD
  rw [List.any_map]
  induction l with
  | nil => rfl
  | cons x l ih =>
    simp only [List.any_cons, Function.comp_apply, eqv_iD, List.mem_cons] at ih ⊢
    rw [ih]
    by_cases h : x = a <;> by_cases h' : a ∈ l <;> simp [h, h', eq_comm (a := a)]
@[simp] theorem eq_iD (a b : List Int) : eqF (iD a) (iD b) = some (.bl (decide (a = b))) := by
  simp [eqF, eqv_iD]
@[simp] theorem ne_iD (a b : List Int) : neF (iD a) (iD b) = some (.bl (!decide (a = b))) := by
  simp [neF, eqv_iD]
/-- a list of numbers -/
def lD (l : List Int) : D := .lst (l.map D.int)
@[simp] theorem eq_lD (a b : List Int) : eqF (lD a) (lD b) = some (.bl (decide (a = b))) := by
  simp [eqF, lD, D.plain, plains_ints, D.eqv, eqvs_ints]
@[simp] theorem ne_lD (a b : List Int) : neF (lD a) (lD b) = some (.bl (!decide (a = b))) := by
  simp [neF, lD, D.plain, plains_ints, D.eqv, eqvs_ints]
theorem eqvs_w : ∀ a b : List (List Int), D.eqvs (wD a) (wD b) = decide (a = b)
  | [], [] => rfl
  | [], _ :: _ => rfl
  | _ :: _, [] => rfl
  | x :: a, y :: b => by
    show (D.eqv (iD x) (iD y) && D.eqvs (wD a) (wD b)) = _
    rw [eqv_iD, eqvs_w a b]
    by_cases h : x = y <;> by_cases h' : a = b <;> simp [h, h']
@[simp] theorem eq_wl (a b : List (List Int)) : eqF (.lst (wD a)) (.lst (wD b)) = some (.bl (decide (a = b))) := by
  simp [eqF, D.plain, plains_wD, D.eqv, eqvs_w]
@[simp] theorem ne_wl (a b : List (List Int)) : neF (.lst (wD a)) (.lst (wD b)) = some (.bl (!decide (a = b))) := by
  simp [neF, D.plain, plains_wD, D.eqv, eqvs_w]
/-! words in their order -/
def lexLe : List Int → List Int → Bool
  | [], _ => true
  | _ :: _, [] => false
  | x :: xs, y :: ys => if x = y then lexLe xs ys else decide (x ≤ y)
theorem cmps_le : ∀ (n : Nat) (xs ys : List Int), D.cmps .le n (xs.map D.int) (ys.map D.int) (decide (xs.length ≤ ys.length)) = some (lexLe xs ys) := by
  intro n xs
  have main : ∀ (ys : List Int) (z : Bool), (z = decide (xs.length ≤ ys.length)) → D.cmps .le n (xs.map D.int) (ys.map D.int) z = some (lexLe xs ys) := by
    induction xs with
    | nil =>
      intro ys z hz
      cases ys <;> (simp [D.cmps, lexLe, hz])
    | cons x xs ih =>
      intro ys z hz
      cases ys with
      | nil => simp [D.cmps, lexLe, hz]
      | cons y ys =>
        have := ih ys z (by rw [hz]; simp)
        simp only [List.map_cons, D.cmps, this]
        have hp : ((D.int x).plain 20 && (D.int y).plain 20) = true := rfl
        rw [if_pos hp]
        have he : (D.int x).eqv (D.int y) = decide (x = y) := rfl
        rw [he]
        by_cases h : x = y
        · simp [h, lexLe]
        · simp only [h, decide_false, lexLe, if_false]
          cases n <;> rfl
  exact fun ys => main ys _ rfl
@[simp] theorem le_w (a b : List Int) : ordF .le (iD a) (iD b) = some (.bl (lexLe a b)) := by
  have h1 : (iD a).plain 20 = true := plain_iD 19 a
  have h2 : (iD b).plain 20 = true := plain_iD 19 b
  unfold ordF
  rw [h1, h2]
  simp only [Bool.and_self, if_true]
  have : D.cmp .le 10 (iD a) (iD b) = some (lexLe a b) := by
    have := cmps_le 9 a b
    unfold iD D.cmp
    simpa [Ord3.len] using this
  rw [this]
  rfl
/-! slices -/
theorem cutD_map (l : List Int) (lo hi : Option Int) : ∃ m, cutD (l.map D.int) lo hi = m.map D.int ∧ m = (l.drop (HT.sIx l.length 0 lo)).take (HT.sIx l.length l.length hi - HT.sIx l.length 0 lo) := by
  refine ⟨_, ?_, rfl⟩
  unfold cutD
  simp [List.map_take, List.map_drop]
/-- x[lo:hi] of a tuple of numbers -/
def cutI (l : List Int) (lo hi : Option Int) : List Int := (l.drop (HT.sIx l.length 0 lo)).take (HT.sIx l.length l.length hi - HT.sIx l.length 0 lo)
@[simp] theorem cut_iD (l : List Int) (lo hi : Option Int) : cutF (iD l) lo hi = some (iD (cutI l lo hi)) := by
  obtain ⟨m, h1, rfl⟩ := cutD_map l lo hi
  unfold iD cutF
  simp only
  rw [h1]
  rfl
/-! loops -/
/-- things with their numbers, from k on -/
def enumF {α : Type} (f : α → D) (k : Nat) (l : List α) : List D := (l.zipIdx k).map fun (w, (k : Nat)) => .tup [.int k, f w]
@[simp] theorem enumF_nil {α : Type} (f : α → D) (k : Nat) : enumF f k [] = [] := rfl
@[simp] theorem enumF_cons {α : Type} (f : α → D) (k : Nat) (a : α) (l : List α) : enumF f k (a :: l) = .tup [.int k, f a] :: enumF f (k + 1) l := by
  unfold enumF
  rw [List.zipIdx_cons]
  rfl
end Cut


set_option Elab.async false
set_option linter.all false
set_option maxRecDepth 100000
set_option maxHeartbeats 1000000
/-! Plain, part 2: comprehensions; rules; steps. -/
namespace Cut
open PySem Mi
open L2 (atI ixN atI_nat)
/-! comprehensions -/
inductive All2 {α β : Type} (P : α → β → Prop) : List α → List β → Prop
  | nil : All2 P [] []
  | cons {a b l m} : P a b → All2 P l m → All2 P (a :: l) (b :: m)
theorem All2.length {α β : Type} {P : α → β → Prop} {l : List α} {m : List β} (h : All2 P l m) : l.length = m.length := by
  induction h with
  | nil => rfl
  | cons _ _ ih => simp [ih]
/-! rules -/
structure PR where
  many : Int
  wide : Nat
  rows : List (List Int)
  low : Int
  high : Option Int
def hD : Option Int → D
  | none => .non
  | some i => .int i
def PR.ds (r : PR) : List D := [.int r.many, .int r.wide, .tup (wD r.rows), .int r.low, hD r.high]
def PR.d (r : PR) : D := .obj r.ds
def PR.t (r : PR) : D := .tup r.ds
def isFrom (d : D) (lo hi : Int) : Bool := match d with
  | .int i => decide (lo ≤ i) && decide (i ≤ hi)
  | _ => false
@[simp] theorem isFrom_i (i lo hi : Int) : isFrom (.int i) lo hi = (decide (lo ≤ i) && decide (i ≤ hi)) := rfl
/-! Rule(..) -/
def wordOk (many : Int) (wide : Nat) (w : List Int) : Prop := w.length = wide ∧ ∀ x ∈ w, 0 ≤ x ∧ x ≤ many - 1
/-- ascending, one behind another -/
def Asc : List (List Int) → Prop
  | [] => True
  | [_] => True
  | a :: b :: l => lexLe b a = false ∧ Asc (b :: l)
structure PR.Ok (r : PR) : Prop where
  m1 : 2 ≤ r.many
  m2 : r.many ≤ 3
  w1 : 1 ≤ r.wide
  w2 : r.wide ≤ 3
  ws : ∀ w ∈ r.rows, wordOk r.many r.wide w
  asc : Asc r.rows
  l1 : 1 ≤ r.low
  l2 : r.low ≤ 6
  hi : ∀ h, r.high = some h → r.low ≤ h ∧ h ≤ 8
  sz : r.rows.length ≤ 1000
theorem wordOk.all {many : Int} {wide : Nat} {w : List Int} (h : wordOk many wide w) : (decide (w.length = wide) && w.all fun x => decide (0 ≤ x) && decide (x ≤ many - 1)) = true := by
  simp only [Bool.and_eq_true, decide_eq_true_eq, List.all_eq_true]
  exact h
/-! a step -/
def lastN (w : Nat) (l : List Int) : List Int := l.drop (l.length - w)
abbrev Stand : Type := List Int × Int
def does (r : PR) (st : Stand) (s : Int) : Bool := (decide (r.low ≤ st.2 + 1) && decide (lastN r.wide (st.1 ++ [s]) ∈ r.rows)) || decide (some (st.2 + 1) = r.high)
end Cut


set_option Elab.async false
set_option linter.all false
set_option maxRecDepth 100000
set_option maxHeartbeats 1000000
/-! Plain, part 3: texts, cuts. -/
namespace Cut
open PySem Mi
open L2 (atI ixN atI_nat)
/-! cuts_of -/
/-! is_text -/
end Cut


set_option Elab.async false
set_option linter.all false
set_option maxRecDepth 100000
set_option maxHeartbeats 1000000
/-! Plain, part 4: what is drawn. -/
namespace Cut
open PySem Mi
open L2 (atI ixN atI_nat)
@[simp] theorem rowM_0 (k : Nat) (sl : List Mi.Slot) (row : RowS) : rowM 0 k ⟨Mi.Slot.val D.row :: sl, row⟩ = .ok (row.get k) ⟨Mi.Slot.val D.row :: sl, row⟩ := rfl
@[simp] theorem get0 (r : RowS) : r.get 0 = .lst (r.xs.map D.int) := rfl
@[simp] theorem get1 (r : RowS) : r.get 1 = .int r.at_ := rfl
@[simp] theorem get2 (r : RowS) : r.get 2 = .int r.big := rfl
@[simp] theorem get3 (r : RowS) : r.get 3 = .int r.seed := rfl
def rwR (k : Nat) (d : D) (e : Mi.Env) : Res Fl := match d with
  | .int n => (match e.sl[0]? with
    | some (Mi.Slot.val D.row) => .ok .nx { e with row := e.row.put k n }
    | _ => .err)
  | _ => .err
@[simp ↓] theorem rowSet_app (k : Nat) (m : M D) (e : Mi.Env) : rowSet 0 k m e = (m e).bind (rwR k) := by
  unfold rowSet bindM Res.bind
  cases m e with
  | ok d e1 =>
    cases d with
    | int n =>
      show (match e1.sl[0]? with
        | some (Mi.Slot.val D.row) => Res.ok Fl.nx { e1 with row := e1.row.put k n }
        | _ => .err) = rwR k (.int n) e1
      unfold rwR
      rfl
    | _ => rfl
  | exc x e1 => rfl
  | err => rfl
@[simp] theorem rwR_int (k : Nat) (n : Int) (sl : List Mi.Slot) (row : RowS) : rwR k (.int n) ⟨Mi.Slot.val D.row :: sl, row⟩ = .ok .nx ⟨Mi.Slot.val D.row :: sl, row.put k n⟩ := rfl
theorem mulC_right (i j : Int) (h : -(2 ^ 64) < j ∧ j < 2 ^ 64) : mulC i j = true := by
  unfold mulC
  simp only [Bool.or_eq_true, Bool.and_eq_true, decide_eq_true_eq]
  exact .inr (.inl h)
theorem mul_small (i j : Int) (h : -(2 ^ 64) < j ∧ j < 2 ^ 64) : mulF (.int i) (.int j) = some (.int (i * j)) := by
  simp only [mulF, mulC_right i j h, if_true]
@[simp] theorem mul_a (i : Int) : mulF (.int i) (.int 48271) = some (.int (i * 48271)) := mul_small _ _ (by decide)
@[simp] theorem mul_b (i : Int) : mulF (.int i) (.int 69621) = some (.int (i * 69621)) := mul_small _ _ (by decide)
@[simp] theorem mul_c (i : Int) : mulF (.int i) (.int 16807) = some (.int (i * 16807)) := mul_small _ _ (by decide)
theorem mod_ii (i j : Int) (h : j ≠ 0) : modF (.int i) (.int j) = some (.int (i.fmod j)) := by
  show (if decide (j ≠ 0) = true then some (D.int (i.fmod j)) else none) = _
  simp [h]
@[simp] theorem mod_a (i : Int) : modF (.int i) (.int 2147483647) = some (.int (i.fmod 2147483647)) := mod_ii _ _ (by decide)
@[simp] theorem mod_b (i : Int) : modF (.int i) (.int 2147483629) = some (.int (i.fmod 2147483629)) := mod_ii _ _ (by decide)
@[simp] theorem pow_a : powF (.int 10) (.int 18) = some (.int 1000000000000000000) := by decide
/-- what a draw keeps -/
def RowIn (r : RowS) : Prop := 0 ≤ r.at_
theorem fdiv_ok (i m : Int) (h : 0 < m) (h' : m ≤ 1000000) : fdivF (.int i) (.int m) = some (.int (i.fdiv m)) := by
  have hl : m.natAbs.log2 < 9000 := by
    have h1 : m.natAbs ≤ 1000000 := by omega
    have h2 : m.natAbs < 2 ^ 20 := Nat.lt_of_le_of_lt h1 (by decide)
    have h3 : m.natAbs ≠ 0 := by omega
    have := (Nat.log2_lt h3).mpr h2
    omega
  have hc : fdivC i m = true := by
    unfold fdivC
    simp only [Bool.and_eq_true, decide_eq_true_eq]
    exact ⟨by omega, hl⟩
  show (if fdivC i m = true then some (D.int (i.fdiv m)) else none) = _
  rw [if_pos hc]
theorem e_pick {row : RowS} (h : RowIn row) {m : Int} (h0 : 0 < m) (h1 : m ≤ 1000000) : ∃ x row', F__law_pick [.row, .int m] row = .ret (.int x) row' ∧ 0 ≤ x ∧ x < m ∧ RowIn row' := by
  obtain ⟨xs, at_, big, seed⟩ := row
  have h : 0 ≤ at_ := h
  have hm := fun i => mod_ii i m (by omega)
  have hd := fun i => fdiv_ok i m h0 h1
  have fm : ∀ i : Int, 0 ≤ i.fmod m ∧ i.fmod m < m := fun i => ⟨Int.fmod_nonneg_of_pos _ h0, Int.fmod_lt_of_pos _ h0⟩
  by_cases c1 : big = 0
  · subst c1
    by_cases c2 : at_ < (xs.length : Int)
    · obtain ⟨n, rfl⟩ : ∃ n : Nat, at_ = n := ⟨at_.toNat, by omega⟩
      have hn : n < xs.length := by omega
      have hix : atI (xs.map D.int) (n : Int) = some (.int xs[n]) := at_nat (by simp [List.getElem?_eq_getElem hn])
      by_cases c3 : 1000000000000000000 ≤ xs[n]
      · have c4 : (0 : Int) < xs[n] := by omega
        refine ⟨xs[n].fmod m, ⟨xs, n + 1, xs[n].fdiv m, seed⟩, ?_, (fm _).1, (fm _).2, by show (0 : Int) ≤ n + 1; omega⟩
        simp [F__law_pick, fnM_app, m__law_pick, RowS.put, c2, hix, c3, c4, hm, hd]
      · refine ⟨(((seed * 48271 + xs[n] * 69621 + 11).fmod 2147483647 * 16807).fmod 2147483629).fmod m, ⟨xs, n + 1, 0, (seed * 48271 + xs[n] * 69621 + 11).fmod 2147483647⟩, ?_, (fm _).1, (fm _).2, by show (0 : Int) ≤ n + 1; omega⟩
        simp [F__law_pick, fnM_app, m__law_pick, RowS.put, c2, hix, c3, hm, hd]
    · refine ⟨(((seed * 48271 + 7).fmod 2147483647 * 16807).fmod 2147483629).fmod m, ⟨xs, at_, 0, (seed * 48271 + 7).fmod 2147483647⟩, ?_, (fm _).1, (fm _).2, h⟩
      simp [F__law_pick, fnM_app, m__law_pick, RowS.put, c2, hm, hd]
  · by_cases c4 : 0 < big
    · refine ⟨big.fmod m, ⟨xs, at_, big.fdiv m, seed⟩, ?_, (fm _).1, (fm _).2, h⟩
      simp [F__law_pick, fnM_app, m__law_pick, RowS.put, c1, c4, hm, hd]
    · refine ⟨((seed * 16807).fmod 2147483629).fmod m, ⟨xs, at_, big, seed⟩, ?_, (fm _).1, (fm _).2, h⟩
      simp [F__law_pick, fnM_app, m__law_pick, RowS.put, c1, c4, hm, hd]
end Cut

set_option Elab.async false
set_option linter.all false
set_option maxRecDepth 1000000
set_option maxHeartbeats 4000000
/-! The law k19, plainly: ten closed calls. -/
namespace Cut
open PySem Mi
noncomputable section
def L19q1 : M Fl := (asgM 2 (callM F__law_pick (consM (readM 1) (consM (pureM (.int 10)) (pureM [])))))
def L19q2 : M Fl := (asgM 3 (callM F__law_raised (consM (readM 2) (pureM []))))
def L19q3 : M Fl := (iteM (orT (notT (testM (op1M (refM 3) (isxF errs fun _ => true)))) (testM (op2M (mapM' (callM F__law_kinds (consM (readM 3) (pureM []))) Ref.val) (mapM' (giveM (lcM (listM (consM (pureM (.int 10)) (pureM [])) range1D) (gN 4) (pureM true) (c_law_1) [4])) Ref.val) neF)))
      (retM (pureM (.bl false)))
      (nxM))
def L19q4 : M Fl := (iteM (andT (testM (op2M (refM 2) (mapM' (giveM (lstM (consM (pureM (.int 7)) (consM (pureM (.int 8)) (pureM []))))) Ref.val) (inF false))) (testM (op2M (mapM' (op1M (refM 3) (xfF xtab "index")) Ref.val) (mapM' (op2M (mapM' (giveM (pureM (.dct [(.int 7, .int 2), (.int 8, .int 1)]))) Ref.val) (refM 2) ixF) Ref.val) neF)))
      (retM (pureM (.bl false)))
      (nxM))
def L19q5 : M Fl := (retM (orV (op2M (refM 2) (mapM' (pureM (.int 9)) Ref.val) neF) (op2M (mapM' (tupM (consM (op1M (refM 3) (xfF xtab "line")) (consM (op1M (refM 3) (xfF xtab "word")) (pureM [])))) Ref.val) (mapM' (tupM (consM (pureM (.int 1)) (consM (pureM (.int 6)) (pureM [])))) Ref.val) eqF)))
theorem L19q_eq : m_law = seqM L19q1 (seqM L19q2 (seqM L19q3 (seqM L19q4 L19q5))) := rfl
def x19 : Int → Exn
  | 0 => ⟨"BadSigns", []⟩
  | 1 => ⟨"BadWindow", []⟩
  | 2 => ⟨"BadLengths", []⟩
  | 3 => ⟨"BadText", []⟩
  | 4 => ⟨"BadNumber", []⟩
  | 5 => ⟨"Unlike", []⟩
  | 6 => ⟨"TooMany", []⟩
  | 7 => ⟨"BadWords", [("index", .int 2)]⟩
  | 8 => ⟨"BadSeen", [("index", .int 1)]⟩
  | _ => ⟨"BadLine", [("word", .int 6), ("line", .int 1)]⟩
def V19 (k : Int) (row : RowS) : Mi.Env := ⟨[.no, .val .row, .val (.int k), .val (keepD (x19 k)), .no], row⟩
def okT (r : Res Fl) : Bool := match r with
  | .ok (.rt (.bl b)) _ => b
  | _ => false
theorem okT_ok {r : Res Fl} (h : okT r = true) : ∃ e, r = .ok (.rt (.bl true)) e := by
  unfold okT at h
  split at h
  · rename_i b e
    subst h
    exact ⟨e, rfl⟩
  · cases h
theorem r19_0 (row : RowS) : F__law_raised [.int 0] row = .ret (keepD (x19 0)) row := by kernel_rfl
theorem t19_0 (row : RowS) : okT (seqM L19q3 (seqM L19q4 L19q5) (V19 0 row)) = true := by kernel_rfl
theorem r19_1 (row : RowS) : F__law_raised [.int 1] row = .ret (keepD (x19 1)) row := by kernel_rfl
theorem t19_1 (row : RowS) : okT (seqM L19q3 (seqM L19q4 L19q5) (V19 1 row)) = true := by kernel_rfl
theorem r19_2 (row : RowS) : F__law_raised [.int 2] row = .ret (keepD (x19 2)) row := by kernel_rfl
theorem t19_2 (row : RowS) : okT (seqM L19q3 (seqM L19q4 L19q5) (V19 2 row)) = true := by kernel_rfl
theorem r19_3 (row : RowS) : F__law_raised [.int 3] row = .ret (keepD (x19 3)) row := by kernel_rfl
theorem t19_3 (row : RowS) : okT (seqM L19q3 (seqM L19q4 L19q5) (V19 3 row)) = true := by kernel_rfl
theorem r19_4 (row : RowS) : F__law_raised [.int 4] row = .ret (keepD (x19 4)) row := by kernel_rfl
theorem t19_4 (row : RowS) : okT (seqM L19q3 (seqM L19q4 L19q5) (V19 4 row)) = true := by kernel_rfl
theorem r19_5 (row : RowS) : F__law_raised [.int 5] row = .ret (keepD (x19 5)) row := by kernel_rfl
theorem t19_5 (row : RowS) : okT (seqM L19q3 (seqM L19q4 L19q5) (V19 5 row)) = true := by kernel_rfl
theorem r19_6 (row : RowS) : F__law_raised [.int 6] row = .ret (keepD (x19 6)) row := by kernel_rfl
theorem t19_6 (row : RowS) : okT (seqM L19q3 (seqM L19q4 L19q5) (V19 6 row)) = true := by kernel_rfl
theorem r19_7 (row : RowS) : F__law_raised [.int 7] row = .ret (keepD (x19 7)) row := by kernel_rfl
theorem t19_7 (row : RowS) : okT (seqM L19q3 (seqM L19q4 L19q5) (V19 7 row)) = true := by kernel_rfl
theorem r19_8 (row : RowS) : F__law_raised [.int 8] row = .ret (keepD (x19 8)) row := by kernel_rfl
theorem t19_8 (row : RowS) : okT (seqM L19q3 (seqM L19q4 L19q5) (V19 8 row)) = true := by kernel_rfl
theorem r19_9 (row : RowS) : F__law_raised [.int 9] row = .ret (keepD (x19 9)) row := by kernel_rfl
theorem t19_9 (row : RowS) : okT (seqM L19q3 (seqM L19q4 L19q5) (V19 9 row)) = true := by kernel_rfl
theorem law_true (ns : List Int) (_ : ns.length ≤ 63) : ∃ e, m_law ⟨.no :: .val .row :: List.replicate 3 .no, row0 ns⟩ = .ok (.rt (.bl true)) e := by
  have h0 : RowIn (row0 ns) := show (0 : Int) ≤ 0 by decide
  obtain ⟨k, row, e1, k0, k1, _⟩ := e_pick h0 (m := 10) (by decide) (by decide)
  have q1 : L19q1 ⟨.no :: .val .row :: List.replicate 3 .no, row0 ns⟩ = .ok .nx ⟨[.no, .val .row, .val (.int k), .no, .no], row⟩ := by
    simp [L19q1, e1]
  have main : F__law_raised [.int k] row = .ret (keepD (x19 k)) row → okT (seqM L19q3 (seqM L19q4 L19q5) (V19 k row)) = true → ∃ e, m_law ⟨.no :: .val .row :: List.replicate 3 .no, row0 ns⟩ = .ok (.rt (.bl true)) e := fun h1 h2 => by
    have q2 : L19q2 ⟨[.no, .val .row, .val (.int k), .no, .no], row⟩ = .ok .nx (V19 k row) := by
      unfold V19
      generalize keepD (x19 k) = d at *
      simp [L19q2, h1]
    obtain ⟨e, h3⟩ := okT_ok h2
    have sq : ∀ {m n : M Fl} {e e1 : Mi.Env}, m e = .ok .nx e1 → seqM m n e = n e1 := fun h => by simp [h]
    exact ⟨e, by rw [L19q_eq, sq q1, sq q2, h3]⟩
  rcases (show k = 0 ∨ k = 1 ∨ k = 2 ∨ k = 3 ∨ k = 4 ∨ k = 5 ∨ k = 6 ∨ k = 7 ∨ k = 8 ∨ k = 9 by omega) with rfl | rfl | rfl | rfl | rfl | rfl | rfl | rfl | rfl | rfl
  · exact main (r19_0 row) (t19_0 row)
  · exact main (r19_1 row) (t19_1 row)
  · exact main (r19_2 row) (t19_2 row)
  · exact main (r19_3 row) (t19_3 row)
  · exact main (r19_4 row) (t19_4 row)
  · exact main (r19_5 row) (t19_5 row)
  · exact main (r19_6 row) (t19_6 row)
  · exact main (r19_7 row) (t19_7 row)
  · exact main (r19_8 row) (t19_8 row)
  · exact main (r19_9 row) (t19_9 row)
end
end Cut

theorem PySem.Challenge.cw_cutsagain_k19_errors_apart_holds : PySem.Challenge.rw_cutsagain_k19_errors_apart.Holds :=
  Cut.holds Cut.law_true
