import PyProof.Rows.All
import Wide.All
import OpenK.AllK
import Wide.FinOn
import HandS.ForMost
import HandS.ForExc
import HandS.Walk
import HandS.Style
import HandS.CallSlots
import HandS.TryMany
import HandS.ExcIs
import HandS.ExcField
import HandS.Wide
import KE.SortData
import HandS.Dict
import HandS.DictTup
import KE.KeyNested
import PyProof.DictMoreH
import HandS.TupMul
import HandS.TupAny
import PyProof.EqAt
import PyProof.EqKinds
import HandS.Deep
import HandS.IsInst
import KE.DataCmp
import PyProof.Rows.InDataRows
import HandS.Text
import HandS.RaiseMore
import KE.DatumIndex
import HandS.Flow
import HandS.WordsExc
import HandS.Zip
import KE.GoesEnum
import HandS.RevTup
import PyProof.ReprRoads
import HandS.SetFor
import HandS.Strs
import KE.KExcSuper
import KE.KSuper
import HandS.ExcInit
import KE.KDictDisplayH
import KE.KDictCopyH
import HandS.Conv
import HandS.DictComp
import KE.KDictWalk
import KE.KDictSum
import HandS.More
import HandS.TupSets
import KE.DataMinMax
import PySem.Challenge.RW_onesilent_k05_whole_parts_of_lots
set_option Elab.async false
set_option linter.all false
set_option maxRecDepth 100000
set_option maxHeartbeats 4000000
namespace DL
open PySem PySem.Spec PyProof.Rows L2

/-! ## dicts whose keys are tuples, and tuples in these: ints, bools, None at the leaves -/
mutual
def hash0 : NestedKey → Int
  | .none => reduceHash 0xFCA86420
  | .num i => hashInt i
  | .text _ => 0
  | .tup ks => reduceHash (Builtin.Tuple.tupleHashOf (hashes0 ks))
def hashes0 : List NestedKey → List Int
  | [] => []
  | k :: ks => hash0 k :: hashes0 ks
end
mutual
def bareN : NestedKey → Bool
  | .none => true
  | .num _ => true
  | .text _ => false
  | .tup ks => baresN ks
def baresN : List NestedKey → Bool
  | [] => true
  | k :: ks => bareN k && baresN ks
end
mutual
theorem hash_bare (w : World) : ∀ k, bareN k = true → k.hash w = hash0 k
  | .none, _ => rfl
  | .num _, _ => rfl
  | .text _, h => by simp [bareN] at h
  | .tup ks, h => by
    simp only [bareN] at h
    simp only [NestedKey.hash, hash0, hashes_bare w ks h]
theorem hashes_bare (w : World) : ∀ ks, baresN ks = true → NestedKey.hashes w ks = hashes0 ks
  | [], _ => rfl
  | k :: ks, h => by
    simp only [baresN, Bool.and_eq_true] at h
    simp only [NestedKey.hashes, hashes0, hash_bare w k h.1, hashes_bare w ks h.2]
end
mutual
/-- the value is that key, as the heap of the layer has it -/
inductive NKv (K : PySem.W.Frag) (H : Hp) : NestedKey → V → Prop
  | non : NKv K H .none .non
  | num {i : Int} : NKv K H (.num i) (.int i)
  | bl {b : Bool} {i : Int} : i = (if b = true then 1 else 0) → NKv K H (.num i) (.bl b)
  | tup {t : Addr} {vs : List V} {ks : List NestedKey} : SqT K H t vs → NKs K H ks vs → NKv K H (.tup ks) (.ref t)
inductive NKs (K : PySem.W.Frag) (H : Hp) : List NestedKey → List V → Prop
  | nil : NKs K H [] []
  | cons {k : NestedKey} {v : V} {ks : List NestedKey} {vs : List V} : NKv K H k v → NKs K H ks vs → NKs K H (k :: ks) (v :: vs)
end
section
variable {X : Cx} {pins : List (Addr × Obj)} {σ : L2.St} {H H' : Hp} {s : Shared} {K : PySem.W.Frag}
mutual
theorem nkv_raw (I : Inv X pins σ H s) : ∀ (k : NestedKey) (v : V) (u : Value), NKv X.K H k v → RelV v u → NestedIs s.heap k u
  | .none, v, u, h, r => by
    cases h
    cases r
    exact .none
  | .num i, v, u, h, r => by
    cases h with
    | num => obtain ⟨t, rfl⟩ := r; exact .int _ _
    | bl e => cases r; exact .bool e
  | .text _, _, _, h, _ => nomatch h
  | .tup ks, v, u, h, r => by
    cases h with
    | tup hs hk =>
      cases r
      obtain ⟨its, rv, ⟨o, ho, hc, n, hd⟩, _⟩ := I.tuple hs
      exact .tup ho hc hd (by simpa using nks_raw I ks _ _ hk rv)
theorem nks_raw (I : Inv X pins σ H s) : ∀ (ks : List NestedKey) (vs : List V) (us : List Value), NKs X.K H ks vs → Vals vs us → NestedAll s.heap ks us
  | [], _, _, h, r => by
    cases h
    cases r
    exact .nil
  | k :: ks, _, _, h, r => by
    cases h with
    | cons a b =>
      cases r with
      | cons c d => exact .cons (nkv_raw I k _ _ a c) (nks_raw I ks _ _ b d)
end
mutual
theorem NKv.mono (m : ∀ a xs, SqT K H a xs → SqT K H' a xs) : ∀ (k : NestedKey) (v : V), NKv K H k v → NKv K H' k v
  | .none, v, h => by cases h; exact .non
  | .num i, v, h => by
    cases h with
    | num => exact .num
    | bl e => exact .bl e
  | .text _, _, h => nomatch h
  | .tup ks, v, h => by
    cases h with
    | tup hs hk => exact .tup (m _ _ hs) (NKs.mono m ks _ hk)
theorem NKs.mono (m : ∀ a xs, SqT K H a xs → SqT K H' a xs) : ∀ (ks : List NestedKey) (vs : List V), NKs K H ks vs → NKs K H' ks vs
  | [], _, h => by cases h; exact .nil
  | k :: ks, _, h => by
    cases h with
    | cons a b => exact .cons (NKv.mono m k _ a) (NKs.mono m ks _ b)
end
abbrev NE := NestedKey × Addr × Value
/-- a dict with such keys at a -/
def dnO (a : Addr) (xs : List NE) : HO := .ext fun h => ∃ o es ep, h.get? a = some o ∧ o.ExactDict ∧ o.data = .dict es ep ∧ es.toList = xs.map (fun x => (⟨hash0 x.1, .ref x.2.1, x.2.2⟩ : DictEntry)) ∧ (xs.map (·.1)).Nodup
def GoodK (K : PySem.W.Frag) (H : Hp) (k : NestedKey) (b : Addr) : Prop := NKv K H k (.ref b) ∧ k.depth ≤ 8 ∧ bareN k = true
/-- the dict at a, its keys good -/
def DN (K : PySem.W.Frag) (H : Hp) (a : Addr) (xs : List NE) : Prop := H a = some (dnO a xs) ∧ (a == sysModules) = false ∧ xs.length ≤ sizeLine ∧ ∀ x ∈ xs, GoodK K H x.1 x.2.1
theorem dn_map {P : Program} {w : World} {xs : List NE} (h : ∀ x ∈ xs, bareN x.1 = true) : xs.map (fun x => (⟨hash0 x.1, .ref x.2.1, x.2.2⟩ : DictEntry)) = xs.map (entryOfKey (nestedKind P w)) :=
  List.map_congr_left fun x hx => by
    show (⟨hash0 x.1, .ref x.2.1, x.2.2⟩ : DictEntry) = ⟨x.1.hash w, .ref x.2.1, x.2.2⟩
    rw [hash_bare w _ (h x hx)]
theorem dn_of {a : Addr} {xs : List NE} (I : Inv X pins σ H s) (d : DN X.K H a xs) : s.heap.DictOfH (nestedKind X.prog X.w) a xs := by
  obtain ⟨ha, _, _, good⟩ := d
  obtain ⟨⟨o, es, ep, h1, h2, h3, h4, h5⟩, _⟩ := (show ObjOk X.prog X.w H s.heap a (dnO a xs) from I.hok a _ ha)
  refine ⟨o, es, ep, h1, h2, h3, ?_, fun x hx => ⟨nkv_raw I _ _ _ (good x hx).1 rfl, (good x hx).2.1⟩, h5⟩
  rw [h4]
  exact dn_map fun x hx => (good x hx).2.2
theorem dn_new {P : Program} {w : World} {H' : Hp} {h' : Heap} {a : Addr} {xs : List NE} (d : h'.DictOfH (nestedKind P w) a xs) (hb : ∀ x ∈ xs, bareN x.1 = true) : ObjOk P w H' h' a (dnO a xs) := by
  obtain ⟨o, es, ep, h1, h2, h3, h4, _, h5⟩ := d
  exact ⟨⟨o, es, ep, h1, h2, h3, by rw [h4]; exact (dn_map hb).symm, h5⟩, ⟨o, h1⟩, fun h1 h2 x k => let ⟨o, es, ep, e, r⟩ := x; ⟨o, es, ep, k o e, r⟩⟩
theorem good_is {b : Addr} {k : NestedKey} (I : Inv X pins σ H s) (g : GoodK X.K H k b) : (nestedKind X.prog X.w).is s.heap k b := ⟨nkv_raw I _ _ _ g.1 rfl, g.2.1⟩
variable {A : Around} {E : Value → Shared → Prop} {a b : Addr} {xs : List NE} {k : NestedKey}
/-- k in d -/
theorem dn_in {Q : Value → Shared → Prop} (hu : A.units + 64 < cLine) (I : Inv X pins σ H s) (d : DN X.K H a xs) (g : GoodK X.K H k b) (h : ∀ s', Inv X pins σ H s' → Q (.bool (atKey xs k).isSome) s') :
    wpAny (model X.prog X.w) A (compareOp .In (.ref b) (.ref a)) Q E s :=
  wpAny_in_heap (show A.units + 1 + 8 < cLine by omega) (good_is I g) d.2.1 (dn_of I d) (h _ (I.tok _))
theorem dn_notIn {Q : Value → Shared → Prop} (hu : A.units + 64 < cLine) (I : Inv X pins σ H s) (d : DN X.K H a xs) (g : GoodK X.K H k b) (h : ∀ s', Inv X pins σ H s' → Q (.bool (!(atKey xs k).isSome)) s') :
    wpAny (model X.prog X.w) A (compareOp .NotIn (.ref b) (.ref a)) Q E s :=
  wpAny_notIn_heap (show A.units + 1 + 8 < cLine by omega) (good_is I g) d.2.1 (dn_of I d) (h _ (I.tok _))
theorem dn_getItem {p : Addr × Value} {Q : Value → Shared → Prop} (hu : A.units + 64 < cLine) (I : Inv X pins σ H s) (d : DN X.K H a xs) (g : GoodK X.K H k b) (hp : atKey xs k = some p) (h : ∀ s', Inv X pins σ H s' → Q p.2 s') :
    wpAny (model X.prog X.w) A (getItem (.ref a) (.ref b)) Q E s :=
  wpAny_getItem_heap (show A.units + 1 + 8 < cLine by omega) (good_is I g) (dn_of I d) hp (h _ (I.tok _))
theorem dn_write {h' : Heap} {t' : Nat} {ys : List NE} (I : Inv X pins σ H s) (mu : Mut (H a)) (hs : Heap.SameBut a s.heap h') (d : h'.DictOfH (nestedKind X.prog X.w) a ys) (hb : ∀ x ∈ ys, bareN x.1 = true) :
    Inv X pins σ (upd H a (dnO a ys)) { s with heap := h', toks := t' } :=
  d_write I mu hs (let ⟨o, _, _, e, _⟩ := d; ⟨o, e⟩) (dn_new d hb)
theorem stored_bare {u : Value} (h : ∀ x ∈ xs, bareN x.1 = true) (hk : bareN k = true) : ∀ x ∈ storedH xs k b u, bareN x.1 = true := fun x hx => by
  unfold storedH at hx
  split at hx
  · obtain ⟨y, hy, rfl⟩ := List.mem_map.mp hx
    unfold putAt
    split
    · exact h y hy
    · exact h y hy
  · rcases List.mem_append.mp hx with hx | hx
    · exact h x hx
    · rw [List.mem_singleton.mp hx]; exact hk
/-- d[k] = v -/
theorem dn_setItem {u : Value} {Q : Unit → Shared → Prop} (hu : A.units + 64 < cLine) (I : Inv X pins σ H s) (d : DN X.K H a xs) (g : GoodK X.K H k b) (h : ∀ s', Inv X pins σ (upd H a (dnO a (storedH xs k b u))) s' → Q () s') :
    wpAny (model X.prog X.w) A (setItem (.ref a) (.ref b) u) Q E s :=
  wpAny_setItem_heap (hsz := d.2.2.1) (show A.units + 1 + 8 < cLine by omega) (good_is I g) (dn_of I d) fun h' dd hs => h _ (dn_write I (by rw [d.1]; exact True.intro) hs dd (stored_bare (fun x hx => (d.2.2.2 x hx).2.2) g.2.2))
/-- d.setdefault(k, v) -/
theorem dn_setdefault {u : Value} {Q : Value → Shared → Prop} (hu : A.units + 64 < cLine) (I : Inv X pins σ H s) (d : DN X.K H a xs) (g : GoodK X.K H k b) (h1 : ∀ p s', atKey xs k = some p → Inv X pins σ H s' → Q p.2 s')
    (h2 : ∀ s', atKey xs k = none → Inv X pins σ (upd H a (dnO a (storedH xs k b u))) s' → Q u s') : wpAny (model X.prog X.w) A (call (.builtin "dict.setdefault") [.ref a, .ref b, u]) Q E s :=
  call_setdefault_heap (hsz := d.2.2.1) (show A.units + 1 + 8 < cLine by omega) (good_is I g) d.2.1 (dn_of I d) (fun p hp => h1 p _ hp (I.tok _)) fun hn h' dd hs => h2 _ hn (dn_write I (by rw [d.1]; exact True.intro) hs dd (stored_bare (fun x hx => (d.2.2.2 x hx).2.2) g.2.2))
/-- d.pop(k, v) -/
theorem dn_pop {u : Value} {Q : Value → Shared → Prop} (hu : A.units + 64 < cLine) (I : Inv X pins σ H s) (d : DN X.K H a xs) (g : GoodK X.K H k b) (h1 : ∀ p s', atKey xs k = some p → Inv X pins σ (upd H a (dnO a (withoutH xs k))) s' → Q p.2 s')
    (h2 : ∀ s', atKey xs k = none → Inv X pins σ H s' → Q u s') : wpAny (model X.prog X.w) A (call (.builtin "dict.pop") [.ref a, .ref b, u]) Q E s := by
  cases hp : atKey xs k with
  | some p => exact call_pop_heap (hsz := d.2.2.1) (.inr ⟨u, rfl⟩) (PySem.F.args_dict_pop_3 _ _ _) (show A.units + 1 + 8 < cLine by omega) (good_is I g) d.2.1 (dn_of I d) hp fun h' dd hs => h1 p _ hp (dn_write I (by rw [d.1]; exact True.intro) hs dd fun x hx => (d.2.2.2 x (mem_withoutH hx)).2.2)
  | none => exact call_pop_default_heap (hsz := d.2.2.1) (show A.units + 1 + 8 < cLine by omega) (good_is I g) d.2.1 (dn_of I d) hp fun tk => h2 _ hp (I.tok tk)
/-- an empty dict of the other kind is one of this kind too, and the other way -/
theorem dn_turn (I : Inv X pins σ H s) (e : H a = some (.dK [])) : Inv X pins σ (upd H a (dnO a [])) s ∧ (a == sysModules) = false := by
  obtain ⟨z, hd, vs, rel, dd⟩ := dk_of I.hok e
  cases rel
  obtain ⟨o, es, ep, h1, h2, h3, h4, h5⟩ := dd
  refine ⟨?_, hd⟩
  have := d_write (h' := s.heap) (t' := s.toks) (ob := dnO a []) I (by rw [e]; exact True.intro) ⟨rfl, fun _ _ => rfl⟩ ⟨o, h1⟩ ⟨⟨o, es, ep, h1, h2, h3, by
    have h5 := h5.1
    generalize es.toList = l at h5
    cases h5
    rfl, List.nodup_nil⟩, ⟨o, h1⟩, fun h1 h2 x k => let ⟨o, es, ep, e, r⟩ := x; ⟨o, es, ep, k o e, r⟩⟩
  exact this
theorem dk_turn (I : Inv X pins σ H s) (d : DN X.K H a []) : Inv X pins σ (upd H a (.dK [])) s := by
  obtain ⟨o, es, ep, h1, h2, h3, h4, h5, h6⟩ := dn_of I d
  have := d_write (h' := s.heap) (t' := s.toks) (ob := .dK []) I (by rw [d.1]; exact True.intro) ⟨rfl, fun _ _ => rfl⟩ ⟨o, h1⟩ ⟨Nat.zero_le _, d.2.1, [], .nil, ⟨o, es, ep, h1, h2, h3, by
    have e : es = #[] := Array.toList_inj.mp (h4.trans rfl)
    subst e
    exact ⟨fun x hx => by simp at hx, .nil, List.nodup_nil⟩⟩⟩
  exact this
end
end DL
set_option Elab.async false
set_option linter.all false
set_option maxRecDepth 100000
set_option maxHeartbeats 4000000
namespace DL
open PySem PySem.Spec PyProof.Rows L2

/-! ## values, objects, heaps of the little machine -/
/-- what an error keeps -/
inductive Lf where
  | non | bl (b : Bool) | int (i : Int) | str (x : Str)
def Lf.v : Lf → V
  | .non => .non
  | .bl b => .bl b
  | .int i => .int i
  | .str x => .str x
/-- an error that is handled: where it lies, its class, its dict -/
structure Tk where
  a : Addr
  cls : Value
  d : Option Addr
inductive D where
  | exv (t : Tk) (c : Str) (arg : List (Str × Lf))
  | non | bl (b : Bool) | int (i : Int) | str (x : Str) | tup (xs : List D) | frl (xs : List D) | loc (n : Nat) | glo (x : Str) | ty (n : String)

inductive O where
  | lst (xs : List D) | dct (kvs : List (D × D)) | dcn (kvs : List (D × D)) | ins (c : Str) (fs : List (Str × D)) | set (xs : List D)
abbrev Hs := List O
mutual
/-- a tuple as a dict's key -/
def nkD : D → Option NestedKey
  | .non => some .none
  | .bl b => some (.num (if b = true then 1 else 0))
  | .int i => some (.num i)
  | .tup xs => (nkDs xs).map .tup
  | _ => none
def nkDs : List D → Option (List NestedKey)
  | [] => some []
  | d :: ds => match nkD d, nkDs ds with
    | some k, some ks => some (k :: ks)
    | _, _ => none
end
/-- an error: its class's name, its field -/
structure Ex where
  cls : Str
  arg : List (Str × Lf)
/-- what may be stuck, but raises nothing -/
abbrev P (α : Type) := Hs → Option (α × Hs)
/-- what may be stuck, or raise -/
abbrev M (α : Type) := Hs → Option (Except Ex α × Hs)
def P.pure {α : Type} (a : α) : P α := fun hs => some (a, hs)
def P.bind {α β : Type} (x : P α) (f : α → P β) : P β := fun hs => match x hs with
  | some (a, h1) => f a h1
  | none => none
def M.pure {α : Type} (a : α) : M α := fun hs => some (.ok a, hs)
def M.stuck {α : Type} : M α := fun _ => none
def M.bind {α β : Type} (x : M α) (f : α → M β) : M β := fun hs => match x hs with
  | some (.ok a, h1) => f a h1
  | some (.error e, h1) => some (.error e, h1)
  | none => none
def M.lift {α : Type} (x : P α) : M α := fun hs => match x hs with
  | some (a, h1) => some (.ok a, h1)
  | none => none

/-! ## how they stand in the heap of the layer -/
/-- a list that nobody writes -/
def SqF (K : PySem.W.Frag) (H : Hp) (a : Addr) (xs : List V) : Prop :=
  (∃ o, H a = some (.frz o (.lst xs))) ∨
    ∃ (o : Obj) (its : Array Value) (n : Nat), K.lookup a = some o ∧ o.cls = .type "list" ∧ o.dict = none ∧ o.data = .seq its n ∧ its.size ≤ sizeLine ∧ Vals xs its.toList
theorem SqF.sql {K : PySem.W.Frag} {H : Hp} {a : Addr} {xs : List V} (h : SqF K H a xs) : SqL K H a xs := by
  rcases h with ⟨o, h⟩ | h
  · exact .inl (.inr ⟨o, h⟩)
  · exact .inr h
def Lf.d : Lf → D
  | .non => .non
  | .bl b => .bl b
  | .int i => .int i
  | .str x => .str x
/-- an error class of the package, straight over the package's own one -/
def ErrM (K : PySem.W.Frag) (mg : Str → Option Value) (x : Str) (C : Addr) : Prop := ∃ (S : Addr) (cd : ClassData), PySem.W.clsIn K C = some cd ∧ cd.name = x ∧ cd.mro = [.ref C, .ref S, .type "ValueError", .type "Exception", .type "BaseException", .type "object"] ∧ mg "SilentError" = some (.ref S) ∧ (PySem.W.clsIn K S).isSome = true ∧
  PySem.W.subIn K (.ref S) (.type "BaseException") = some true ∧ PySem.W.typeIn K (.ref S) = some (.type "type") ∧ PySem.W.typeIn K (.ref C) = some (.type "type") ∧ S ≠ C ∧ x ≠ "SilentError" ∧ L2.XfC K C ∧ L2.ExcC K C
/-- how an error lies in the layer -/
def RX (K : PySem.W.Frag) (mg : Str → Option Value) (H : Hp) (x : Ex) (cls : Value) (d : Option Addr) : Prop :=
  ∃ C, mg x.cls = some (.ref C) ∧ cls = .ref C ∧ ErrM K mg x.cls C ∧ (∀ p ∈ x.arg, PySem.W.findIn K (.ref C) p.1 = some none) ∧ ((x.arg = [] ∧ d = none) ∨ ∃ dd, d = some dd ∧ H dd = some (.xd (x.arg.map fun p => (p.1, p.2.v))))
/-- the built-in types that isinstance asks for -/
def tyList : List String := ["int", "bool", "str", "list", "tuple", "dict"]
/-- what is known of a class of the package -/
structure CF (K : PySem.W.Frag) (C : Addr) : Prop where
  cls : Cls K C
  cc : PySem.W.findIn K (.ref C) "__class__" = some (some (.builtin "object.__class__"))
  hn : PySem.W.specialIn K (.builtin "object.__class__") "__get__" = some (some (.builtin "getset_descriptor.__get__"))
  tk : PySem.W.takesIn K (.builtin "object.__class__") = some true
  mo : PySem.W.mroIn K C (.type "object") = some true
  nt : ∀ T ∈ tyList, PySem.W.kitOne K (.ref C) (.type T) = some false
section
variable (K : PySem.W.Frag) (mg : Str → Option Value)
mutual
def RV (m : List Addr) (H : Hp) : D → V → Prop
  | .non, v => v = .non
  | .bl b, v => v = .bl b
  | .int i, v => v = .int i
  | .str x, v => v = .str x
  | .tup xs, v => ∃ a vs, v = .ref a ∧ SqT K H a vs ∧ RVs m H xs vs
  | .frl xs, v => ∃ a vs, v = .ref a ∧ SqF K H a vs ∧ RVs m H xs vs
  | .loc n, v => ∃ a, v = .ref a ∧ m[n]? = some a
  | .glo x, v => ∃ a, v = .ref a ∧ mg x = some (.ref a)
  | .ty n, v => v = .ty n
  | .exv t c as, v => v = .ref t.a ∧ RX K mg H ⟨c, as⟩ t.cls t.d
def RVs (m : List Addr) (H : Hp) : List D → List V → Prop
  | [], vs => vs = []
  | d :: ds, vs => ∃ v r, vs = v :: r ∧ RV m H d v ∧ RVs m H ds r
end
def RFs (m : List Addr) (H : Hp) : List (Str × D) → List (Str × V) → Prop
  | [], vs => vs = []
  | (x, d) :: ds, vs => ∃ v r, vs = (x, v) :: r ∧ RV K mg m H d v ∧ RFs m H ds r
/-- a dict's key -/
def _root_.DL.kD : Key → D
  | .inl i => .int i
  | .inr x => .str x
def RKs (m : List Addr) (H : Hp) : List (D × D) → List (Key × V) → Prop
  | [], vs => vs = []
  | (k, d) :: ds, vs => ∃ κ v r, vs = (κ, v) :: r ∧ k = kD κ ∧ RV K mg m H d v ∧ RKs m H ds r
def RNs (m : List Addr) (H : Hp) : List (D × D) → List NE → Prop
  | [], xs => xs = []
  | (k, d) :: ds, xs => ∃ κ b u v r, xs = (κ, b, u) :: r ∧ nkD k = some κ ∧ κ.depth ≤ 8 ∧ RV K mg m H k (.ref b) ∧ RV K mg m H d v ∧ RelV v u ∧ RNs m H ds r
def RO (m : List Addr) (H : Hp) : O → Addr → Prop
  | .lst xs, a => ∃ vs, H a = some (.lst vs) ∧ RVs K mg m H xs vs
  | .dct kvs, a => ∃ ks, H a = some (.dK ks) ∧ RKs K mg m H kvs ks
  | .dcn kvs, a => ∃ xs, H a = some (dnO a xs) ∧ (a == sysModules) = false ∧ xs.length ≤ sizeLine ∧ RNs K mg m H kvs xs
  | .ins c fs, a => ∃ C dx vs, mg c = some (.ref C) ∧ H a = some (.ins C dx vs) ∧ RFs K mg m H fs vs ∧ CF K C ∧ ∀ p ∈ fs, NoAttr K C p.1
  | .set _, _ => False
structure HR (m : List Addr) (hs : Hs) (H : Hp) : Prop where
  len : m.length = hs.length
  nd : m.Nodup
  ob : ∀ (n : Nat) (o : O) (a : Addr), hs[n]? = some o → m[n]? = some a → RO K mg m H o a
structure Ext (m : List Addr) (H : Hp) (m' : List Addr) (H' : Hp) : Prop where
  pre : ∃ t, m' = m ++ t
  keep : ∀ b o, H b = some o → b ∉ m → H' b = some o
  new : ∀ b ∈ m', b ∈ m ∨ H b = none
  tup : ∀ a xs, SqT K H a xs → SqT K H' a xs
  frz : ∀ a o u, H a = some (.frz o u) → H' a = some (.frz o u)
  xd : ∀ a fs, H a = some (.xd fs) → H' a = some (.xd fs)
/-- what values lean on -/
structure Wk (m : List Addr) (H : Hp) (m' : List Addr) (H' : Hp) : Prop where
  pre : ∃ t, m' = m ++ t
  tup : ∀ a xs, SqT K H a xs → SqT K H' a xs
  frz : ∀ a o u, H a = some (.frz o u) → H' a = some (.frz o u)
  xd : ∀ a fs, H a = some (.xd fs) → H' a = some (.xd fs)
structure RS (m : List Addr) (H : Hp) (ev : List (Option D)) (σ : L2.St) : Prop where
  len : ev.length = σ.length
  at_ : ∀ (i : Nat) (d : D), ev[i]? = some (some d) → ∃ v, σ[i]? = some (some v) ∧ RV K mg m H d v
end
section
variable {K : PySem.W.Frag} {mg : Str → Option Value} {m m' m1 m2 : List Addr} {H H' H1 H2 : Hp}
theorem Ext.refl : Ext K m H m H := ⟨⟨[], by simp⟩, fun _ _ h _ => h, fun _ h => .inl h, fun _ _ h => h, fun _ _ _ h => h, fun _ _ h => h⟩
theorem Ext.trans (a : Ext K m H m1 H1) (b : Ext K m1 H1 m2 H2) : Ext K m H m2 H2 := by
  obtain ⟨t, rfl⟩ := a.pre
  obtain ⟨u, rfl⟩ := b.pre
  refine ⟨⟨t ++ u, by simp⟩, fun c o h hn => ?_, fun c hc => ?_, fun c xs h => b.tup c xs (a.tup c xs h), fun c o u h => b.frz c o u (a.frz c o u h), fun c u h => b.xd c u (a.xd c u h)⟩
  · refine b.keep c o (a.keep c o h hn) fun hc => ?_
    rcases a.new c hc with q | q
    · exact hn q
    · rw [h] at q; cases q
  · rcases b.new c hc with q | q
    · exact a.new c q
    · by_cases hm : c ∈ m
      · exact .inl hm
      · refine .inr ?_
        cases e : H c with
        | none => rfl
        | some o => rw [a.keep c o e hm] at q; cases q
theorem Ext.wk (e : Ext K m H m' H') : Wk K m H m' H' := ⟨e.pre, e.tup, e.frz, e.xd⟩
theorem Wk.loc (e : Wk K m H m' H') {n : Nat} {a : Addr} (h : m[n]? = some a) : m'[n]? = some a := by
  obtain ⟨t, rfl⟩ := e.pre
  rw [List.getElem?_append_left (List.getElem?_eq_some_iff.mp h).1]
  exact h
theorem RX.monoW (e : Wk K m H m' H') {x : Ex} {cls : Value} {d : Option Addr} (h : RX K mg H x cls d) : RX K mg H' x cls d := by
  obtain ⟨C, h1, h2, h3, h3', h4⟩ := h
  refine ⟨C, h1, h2, h3, h3', ?_⟩
  rcases h4 with h4 | ⟨dd, h4, h5⟩
  · exact .inl h4
  · exact .inr ⟨dd, h4, e.xd _ _ h5⟩
theorem RX.mono (e : Ext K m H m' H') {x : Ex} {cls : Value} {d : Option Addr} (h : RX K mg H x cls d) : RX K mg H' x cls d := h.monoW e.wk
mutual
theorem RV.monoW (e : Wk K m H m' H') : ∀ {d : D} {v : V}, RV K mg m H d v → RV K mg m' H' d v
  | .exv t c as, _, h => by
    simp only [RV] at h ⊢
    exact ⟨h.1, h.2.monoW e⟩
  | .non, _, h => by simpa [RV] using h
  | .bl _, _, h => by simpa [RV] using h
  | .int _, _, h => by simpa [RV] using h
  | .str _, _, h => by simpa [RV] using h
  | .ty _, _, h => by simpa [RV] using h
  | .glo _, _, h => by simpa [RV] using h
  | .loc n, _, h => by
    simp only [RV] at h ⊢
    obtain ⟨a, e1, h⟩ := h
    exact ⟨a, e1, e.loc h⟩
  | .frl xs, _, h => by
    simp only [RV] at h ⊢
    obtain ⟨a, vs, e1, h1, h2⟩ := h
    refine ⟨a, vs, e1, ?_, RVs.monoW e h2⟩
    rcases h1 with ⟨o, h1⟩ | h1
    · exact .inl ⟨o, e.frz _ _ _ h1⟩
    · exact .inr h1
  | .tup xs, _, h => by
    simp only [RV] at h ⊢
    obtain ⟨a, vs, e1, h1, h2⟩ := h
    exact ⟨a, vs, e1, e.tup _ _ h1, RVs.monoW e h2⟩
theorem RVs.monoW (e : Wk K m H m' H') : ∀ {ds : List D} {vs : List V}, RVs K mg m H ds vs → RVs K mg m' H' ds vs
  | [], _, h => by simpa [RVs] using h
  | d :: ds, _, h => by
    simp only [RVs] at h ⊢
    obtain ⟨v, r, e1, h1, h2⟩ := h
    exact ⟨v, r, e1, RV.monoW e h1, RVs.monoW e h2⟩
end
theorem RS.monoW (e : Wk K m H m' H') {ev : List (Option D)} {σ : L2.St} (h : RS K mg m H ev σ) : RS K mg m' H' ev σ :=
  ⟨h.len, fun i d q => let ⟨v, h1, h2⟩ := h.at_ i d q; ⟨v, h1, h2.monoW e⟩⟩
theorem RFs.monoW (e : Wk K m H m' H') : ∀ {ds : List (Str × D)} {vs : List (Str × V)}, RFs K mg m H ds vs → RFs K mg m' H' ds vs
  | [], _, h => by simpa [RFs] using h
  | (x, d) :: ds, _, h => by
    simp only [RFs] at h ⊢
    obtain ⟨v, r, e1, h1, h2⟩ := h
    exact ⟨v, r, e1, h1.monoW e, RFs.monoW e h2⟩
theorem RKs.monoW (e : Wk K m H m' H') : ∀ {ds : List (D × D)} {vs : List (Key × V)}, RKs K mg m H ds vs → RKs K mg m' H' ds vs
  | [], _, h => by simpa [RKs] using h
  | (k, d) :: ds, _, h => by
    simp only [RKs] at h ⊢
    obtain ⟨κ, v, r, e1, e2, h1, h2⟩ := h
    exact ⟨κ, v, r, e1, e2, h1.monoW e, RKs.monoW e h2⟩
theorem RNs.monoW (e : Wk K m H m' H') : ∀ {ds : List (D × D)} {xs : List NE}, RNs K mg m H ds xs → RNs K mg m' H' ds xs
  | [], _, h => by simpa [RNs] using h
  | (k, d) :: ds, _, h => by
    simp only [RNs] at h ⊢
    obtain ⟨κ, b, u, v, r, e1, e2, e3, h1, h2, h3, h4⟩ := h
    exact ⟨κ, b, u, v, r, e1, e2, e3, h1.monoW e, h2.monoW e, h3, RNs.monoW e h4⟩
theorem RV.mono (e : Ext K m H m' H') {d : D} {v : V} (h : RV K mg m H d v) : RV K mg m' H' d v := h.monoW e.wk
theorem RVs.mono (e : Ext K m H m' H') {ds : List D} {vs : List V} (h : RVs K mg m H ds vs) : RVs K mg m' H' ds vs := RVs.monoW e.wk h
theorem RS.mono (e : Ext K m H m' H') {ev : List (Option D)} {σ : L2.St} (h : RS K mg m H ev σ) : RS K mg m' H' ev σ := h.monoW e.wk
theorem RFs.mono (e : Ext K m H m' H') {ds : List (Str × D)} {vs : List (Str × V)} (h : RFs K mg m H ds vs) : RFs K mg m' H' ds vs := RFs.monoW e.wk h
theorem RVs.length : ∀ {ds : List D} {vs : List V}, RVs K mg m H ds vs → ds.length = vs.length
  | [], _, h => by simp only [RVs] at h; subst h; rfl
  | d :: ds, _, h => by
    simp only [RVs] at h
    obtain ⟨v, r, rfl, h1, h2⟩ := h
    simp [RVs.length h2]
theorem RVs.nil_iff {vs : List V} : RVs K mg m H [] vs ↔ vs = [] := by simp only [RVs]
theorem RVs.cons_iff {d : D} {ds : List D} {vs : List V} : RVs K mg m H (d :: ds) vs ↔ ∃ v r, vs = v :: r ∧ RV K mg m H d v ∧ RVs K mg m H ds r := by simp only [RVs]
theorem RVs.cons {d : D} {ds : List D} {v : V} {vs : List V} (h1 : RV K mg m H d v) (h2 : RVs K mg m H ds vs) : RVs K mg m H (d :: ds) (v :: vs) := RVs.cons_iff.mpr ⟨v, vs, rfl, h1, h2⟩
theorem RVs.append : ∀ {xs ys : List D} {us ws : List V}, RVs K mg m H xs us → RVs K mg m H ys ws → RVs K mg m H (xs ++ ys) (us ++ ws)
  | [], _, _, _, h1, h2 => by rw [RVs.nil_iff] at h1; subst h1; exact h2
  | x :: xs, _, _, _, h1, h2 => by
    obtain ⟨v, r, rfl, q1, q2⟩ := RVs.cons_iff.mp h1
    exact RVs.cons q1 (RVs.append q2 h2)
theorem RVs.get : ∀ {xs : List D} {us : List V} {i : Nat} {d : D}, RVs K mg m H xs us → xs[i]? = some d → ∃ v, us[i]? = some v ∧ RV K mg m H d v
  | [], _, _, _, _, h => by simp at h
  | x :: xs, _, 0, d, h, e => by
    obtain ⟨v, r, rfl, q1, q2⟩ := RVs.cons_iff.mp h
    simp at e; subst e
    exact ⟨v, rfl, q1⟩
  | x :: xs, _, i + 1, d, h, e => by
    obtain ⟨v, r, rfl, q1, q2⟩ := RVs.cons_iff.mp h
    exact RVs.get (i := i) q2 (by simpa using e)
theorem RVs.get' : ∀ {xs : List D} {us : List V} {i : Nat} {v : V}, RVs K mg m H xs us → us[i]? = some v → ∃ d, xs[i]? = some d ∧ RV K mg m H d v
  | [], _, _, _, h, e => by rw [RVs.nil_iff] at h; subst h; simp at e
  | x :: xs, _, 0, d, h, e => by
    obtain ⟨v, r, rfl, q1, q2⟩ := RVs.cons_iff.mp h
    simp at e; subst e
    exact ⟨x, rfl, q1⟩
  | x :: xs, _, i + 1, d, h, e => by
    obtain ⟨v, r, rfl, q1, q2⟩ := RVs.cons_iff.mp h
    exact RVs.get' (i := i) q2 (by simpa using e)
theorem RVs.set : ∀ {xs : List D} {us : List V} {d : D} {v : V} (i : Nat), RVs K mg m H xs us → RV K mg m H d v → RVs K mg m H (xs.set i d) (us.set i v)
  | [], _, _, _, _, h, _ => by rw [RVs.nil_iff] at h; subst h; exact RVs.nil_iff.mpr rfl
  | x :: xs, _, _, _, 0, h, q => by
    obtain ⟨v, r, rfl, q1, q2⟩ := RVs.cons_iff.mp h
    exact RVs.cons q q2
  | x :: xs, _, _, _, i + 1, h, q => by
    obtain ⟨v, r, rfl, q1, q2⟩ := RVs.cons_iff.mp h
    exact RVs.cons q1 (RVs.set i q2 q)
theorem RVs.take : ∀ {xs : List D} {us : List V} (n : Nat), RVs K mg m H xs us → RVs K mg m H (xs.take n) (us.take n)
  | _, _, 0, _ => RVs.nil_iff.mpr rfl
  | [], _, n + 1, h => by rw [RVs.nil_iff] at h; subst h; exact RVs.nil_iff.mpr rfl
  | x :: xs, _, n + 1, h => by
    obtain ⟨v, r, rfl, q1, q2⟩ := RVs.cons_iff.mp h
    exact RVs.cons q1 (RVs.take n q2)
theorem RVs.drop : ∀ {xs : List D} {us : List V} (n : Nat), RVs K mg m H xs us → RVs K mg m H (xs.drop n) (us.drop n)
  | _, _, 0, h => h
  | [], _, n + 1, h => by rw [RVs.nil_iff] at h; subst h; exact RVs.nil_iff.mpr rfl
  | x :: xs, _, n + 1, h => by
    obtain ⟨v, r, rfl, q1, q2⟩ := RVs.cons_iff.mp h
    exact RVs.drop n q2

/-! ### the heap's turns -/
theorem RO.there {o : O} {a : Addr} (h : RO K mg m H o a) : ∃ u, H a = some u := by
  cases o with
  | lst xs => obtain ⟨vs, h1, h2⟩ := h; exact ⟨_, h1⟩
  | dct _ => obtain ⟨ks, h1, _⟩ := h; exact ⟨_, h1⟩
  | dcn _ => obtain ⟨xs, h1, _⟩ := h; exact ⟨_, h1⟩
  | ins c fs => obtain ⟨C, dx, vs, h0, h1, h2, h3⟩ := h; exact ⟨_, h1⟩
  | set _ => exact h.elim
theorem RO.mono (e : Ext K m H m' H') {o : O} {a : Addr} (h : RO K mg m H o a) (ha : H' a = H a) : RO K mg m' H' o a := by
  cases o with
  | lst xs => obtain ⟨vs, h1, h2⟩ := h; exact ⟨vs, by rw [ha]; exact h1, h2.mono e⟩
  | dct _ => obtain ⟨ks, h1, h2⟩ := h; exact ⟨ks, by rw [ha]; exact h1, h2.monoW e.wk⟩
  | dcn _ => obtain ⟨xs, h1, h2, h3, h4⟩ := h; exact ⟨xs, by rw [ha]; exact h1, h2, h3, h4.monoW e.wk⟩
  | ins c fs => obtain ⟨C, dx, vs, h0, h1, h2, h3⟩ := h; exact ⟨C, dx, vs, h0, by rw [ha]; exact h1, h2.mono e, h3⟩
  | set _ => exact h.elim
theorem HR.at_ {hs : Hs} (h : HR K mg m hs H) {n : Nat} {o : O} (e : hs[n]? = some o) : ∃ a, m[n]? = some a ∧ RO K mg m H o a := by
  have h1 := (List.getElem?_eq_some_iff.mp e).1
  have h1' : n < m.length := by rw [h.len]; exact h1
  have h2 : m[n]? = some (m[n]'h1') := by simp [h1']
  exact ⟨_, h2, h.ob n o _ e h2⟩
theorem HR.at' {hs : Hs} (h : HR K mg m hs H) {n : Nat} {a : Addr} (e : m[n]? = some a) : ∃ o, hs[n]? = some o ∧ RO K mg m H o a := by
  have h1 := (List.getElem?_eq_some_iff.mp e).1
  have h1' : n < hs.length := by rw [← h.len]; exact h1
  have h2 : hs[n]? = some (hs[n]'h1') := by simp [h1']
  exact ⟨_, h2, h.ob n _ a h2 e⟩
theorem HR.mem {hs : Hs} (h : HR K mg m hs H) {a : Addr} (e : a ∈ m) : ∃ u, H a = some u := by
  obtain ⟨n, hn⟩ := List.mem_iff_getElem?.mp e
  obtain ⟨o, _, r⟩ := h.at' hn
  exact r.there
theorem HR.fresh {hs : Hs} (h : HR K mg m hs H) {p : Addr} (e : H p = none) : p ∉ m := fun q => by
  obtain ⟨_, z⟩ := h.mem q
  rw [e] at z
  cases z
/-- a new object that is none of ours -/
theorem Ext.upd_new {p : Addr} {o : HO} (e : H p = none) : Ext K m H m (upd H p o) := by
  refine ⟨⟨[], by simp⟩, fun b u h _ => by rw [upd_ne (ne_of_none h e)]; exact h, fun b h => .inl h, fun a xs h => ?_, fun a u v h => by rw [upd_ne (ne_of_none h e)]; exact h, fun a fs h => by rw [upd_ne (ne_of_none h e)]; exact h⟩
  rcases h with (h | ⟨u, h⟩) | h
  · exact .inl (.inl (by rw [upd_ne (ne_of_none h e)]; exact h))
  · exact .inl (.inr ⟨u, by rw [upd_ne (ne_of_none h e)]; exact h⟩)
  · exact .inr h
theorem HR.upd_new {hs : Hs} (h : HR K mg m hs H) {p : Addr} {o : HO} (e : H p = none) : HR K mg m hs (upd H p o) :=
  ⟨h.len, h.nd, fun n u a h1 h2 => (h.ob n u a h1 h2).mono (Ext.upd_new e) (upd_ne fun q => h.fresh e (q ▸ List.mem_of_getElem? h2))⟩
/-- a new list of ours -/
theorem Ext.push {p : Addr} {o : HO} (e : H p = none) : Ext K m H (m ++ [p]) (upd H p o) := by
  have x := Ext.upd_new (K := K) (m := m) (o := o) e
  refine ⟨⟨[p], rfl⟩, x.keep, fun b h => ?_, x.tup, x.frz, x.xd⟩
  rcases List.mem_append.mp h with h | h
  · exact .inl h
  · obtain rfl : b = p := by simpa using h
    exact .inr e
theorem HR.push {hs : Hs} (h : HR K mg m hs H) {p : Addr} {ho : HO} {o : O} (e : H p = none) (r : RO K mg (m ++ [p]) (upd H p ho) o p) : HR K mg (m ++ [p]) (hs ++ [o]) (upd H p ho) := by
  have hl := h.len
  refine ⟨by simp [hl], ?_, fun n u a h1 h2 => ?_⟩
  · refine List.nodup_append.mpr ⟨h.nd, by simp, fun a ha b hb q => ?_⟩
    obtain rfl : b = p := by simpa using hb
    subst q
    exact h.fresh e ha
  · by_cases hn : n < m.length
    · rw [List.getElem?_append_left hn] at h2
      rw [List.getElem?_append_left (by omega)] at h1
      exact (h.ob n u a h1 h2).mono (Ext.push e) (upd_ne fun q => h.fresh e (q ▸ List.mem_of_getElem? h2))
    · rw [List.getElem?_append_right (by omega)] at h1 h2
      have hz : n - m.length = 0 := by
        have := (List.getElem?_eq_some_iff.mp h2).1
        simpa using this
      rw [hz] at h2
      rw [← hl, hz] at h1
      simp at h1 h2
      subst h1 h2
      exact r
/-- an object of ours is written -/
theorem Ext.write {n : Nat} {a : Addr} {o u : HO} (hm : m[n]? = some a) (ha : H a = some o) (hn : (∀ xs, o ≠ .tup xs) ∧ (∀ v w, o ≠ .frz v w) ∧ ∀ fs, o ≠ .xd fs) : Ext K m H m (upd H a u) := by
  have mem := List.mem_of_getElem? hm
  refine ⟨⟨[], by simp⟩, fun b v h q => by rw [upd_ne fun z => q (by rw [z]; exact mem)]; exact h, fun b h => .inl h, fun b xs h => ?_, fun b v w h => ?_, fun b fs h => ?_⟩
  · rcases h with (h | ⟨v, h⟩) | h
    · exact .inl (.inl (by rw [upd_ne fun z => by subst z; rw [ha] at h; exact hn.1 _ (Option.some.inj h)]; exact h))
    · exact .inl (.inr ⟨v, by rw [upd_ne fun z => by subst z; rw [ha] at h; exact hn.2.1 _ _ (Option.some.inj h)]; exact h⟩)
    · exact .inr h
  · rw [upd_ne fun z => by subst z; rw [ha] at h; exact hn.2.1 _ _ (Option.some.inj h)]; exact h
  · rw [upd_ne fun z => by subst z; rw [ha] at h; exact hn.2.2 _ (Option.some.inj h)]; exact h
theorem HR.write {hs : Hs} (h : HR K mg m hs H) {n : Nat} {a : Addr} {o u : HO} {x : O} (hm : m[n]? = some a) (ha : H a = some o) (hn : (∀ xs, o ≠ .tup xs) ∧ (∀ v w, o ≠ .frz v w) ∧ ∀ fs, o ≠ .xd fs) (r : RO K mg m (upd H a u) x a) :
    HR K mg m (hs.set n x) (upd H a u) := by
  refine ⟨by simp [h.len], h.nd, fun k y b h1 h2 => ?_⟩
  by_cases hk : k = n
  · subst hk
    have hl : k < hs.length := by rw [← h.len]; exact (List.getElem?_eq_some_iff.mp hm).1
    rw [List.getElem?_set_self hl] at h1
    rw [hm] at h2
    cases h1; cases h2
    exact r
  · rw [List.getElem?_set_ne (Ne.symm hk)] at h1
    refine (h.ob k y b h1 h2).mono (Ext.write hm ha hn) (upd_ne fun q => hk ?_)
    subst q
    exact nd_ix h.nd h2 hm
theorem lst_plain {vs : List V} : (∀ xs, HO.lst vs ≠ .tup xs) ∧ (∀ v w, HO.lst vs ≠ .frz v w) ∧ ∀ fs, HO.lst vs ≠ .xd fs := ⟨(fun _ h => nomatch h), (fun _ _ h => nomatch h), (fun _ h => nomatch h)⟩
theorem ins_plain {C dx : Addr} {vs : List (Str × V)} : (∀ xs, HO.ins C dx vs ≠ .tup xs) ∧ (∀ v w, HO.ins C dx vs ≠ .frz v w) ∧ ∀ fs, HO.ins C dx vs ≠ .xd fs := ⟨(fun _ h => nomatch h), (fun _ _ h => nomatch h), (fun _ h => nomatch h)⟩
end
end DL
set_option Elab.async false
set_option linter.all false
set_option maxRecDepth 100000
set_option maxHeartbeats 4000000
namespace DL
open PySem PySem.Spec PyProof.Rows L2
open AutoSeq1 (wpAny_loadPart')

/-! ## a tuple once, or not at all -/
theorem tup_once (l : Addr) (its : Array Value) (n : Nat) (dd : Option Addr) (sl : Array (Option Value)) (x : Int) (u : Tok) (c0 : (decide (x < -(2 ^ 63)) || decide (x ≥ 2 ^ 63)) = false) (c1 : (its.isEmpty || x == 1) = true) :
    Meets (Builtin.«tuple.__mul__» ⟨[.ref l, .int x u], []⟩) (fun _ R s => s.heap.get? l = some { cls := .type "tuple", dict := dd, data := .seq its n, slots := sl } ∧ R (.ok (.ret (Value.ref l))) s) :=
  .of_wp fun prog w A R s ⟨held, h⟩ => by
    obtain ⟨hp, g, d, tk, os⟩ := s
    have idx := AutoSeq1.idx_int
    wp_walk using wpAny_loadPart' held
    repeat (first
      | (refine wpAny_ite_false (decide_eq_false (by rw [c0]; exact Bool.false_ne_true)) ?_; wp_walk using wpAny_loadPart' held)
      | (refine wpAny_ite_true (decide_eq_true c1) ?_; wp_walk using wpAny_loadPart' held))
    exact ⟨_, rfl, h⟩
theorem tup_never (l : Addr) (its : Array Value) (n : Nat) (dd : Option Addr) (sl : Array (Option Value)) (x : Int) (u : Tok) (c0 : (decide (x < -(2 ^ 63)) || decide (x ≥ 2 ^ 63)) = false) (c1 : (its.isEmpty || x == 1) = false) (c2 : (decide (x ≤ 0) || its.isEmpty) = true) :
    Meets (Builtin.«tuple.__mul__» ⟨[.ref l, .int x u], []⟩) (fun _ R s => s.heap.get? l = some { cls := .type "tuple", dict := dd, data := .seq its n, slots := sl } ∧
      R (.ok (.ret (Value.ref s.heap.objs.size))) { s with heap := s.heap.push { cls := Value.type "tuple", data := Data.seq #[] } }) :=
  .of_wp fun prog w A R s ⟨held, h⟩ => by
    obtain ⟨hp, g, d, tk, os⟩ := s
    have idx := AutoSeq1.idx_int
    wp_walk using wpAny_loadPart' held
    repeat (first
      | (refine wpAny_ite_false (decide_eq_false (by rw [c0]; exact Bool.false_ne_true)) ?_; wp_walk using wpAny_loadPart' held)
      | (refine wpAny_ite_false (decide_eq_false (by rw [c1]; exact Bool.false_ne_true)) ?_; wp_walk using wpAny_loadPart' held)
      | (refine wpAny_ite_true (decide_eq_true c2) ?_; wp_walk using wpAny_loadPart' held))
    exact ⟨_, rfl, h⟩
/-- a tuple so many times, none or one among them -/
def rRepF (K : PySem.W.Frag) : R2 := fun x y H Q => ∃ l k xs, x = .ref l ∧ y = .int k ∧ SqT K H l xs ∧ ((k = 1 ∨ (xs = [] ∧ 0 ≤ k ∧ k ≤ 1000)) ∧ Q (.ref l) H ∨ (k = 0 ∧ xs ≠ []) ∧ ∀ p, H p = none → Q (.ref p) (upd H p (.tup [])))
section
variable {X : Cx}
theorem op_repF : OpR X (binaryOp .Mult) (rRepF X.K) := by
  intro pins s σ H x y v u Q I rx ry h
  obtain ⟨l, k, xs, rfl, rfl, hT, q⟩ := h
  cases rx
  obtain ⟨t, rfl⟩ := ry
  obtain ⟨its, r, ⟨⟨cls, dd, data, sl⟩, ho, hc, n, hd⟩, hs⟩ := I.tuple hT
  simp only at hc hd
  subst hc hd
  have hle := r.length
  have bound : -(2 ^ 63) ≤ k ∧ k < 2 ^ 63 := by
    rcases q with ⟨h | h, _⟩ | ⟨⟨h, _⟩, _⟩ <;> omega
  have c0 : (decide (k < -(2 ^ 63)) || decide (k ≥ 2 ^ 63)) = false := by
    rw [decide_eq_false (by omega), decide_eq_false (by omega)] <;> rfl
  refine wpAny_binaryOp_repeat_ref (T := "tuple") (U := "int") (by decide) ⟨_, ho, rfl⟩ (fun s' => typeIs_int s' k t) noFill_tuple_mul F.fills_int_mul F.slot_int_rmul repeat_tuple F.slot_int_index.lookup
    (call_meets F.slot_int_rmul (typeIs_int s k t) F.entry_int_rmul (F.args_int_rmul_2 _ _) (int_rmul_tuple k t l its.toArray n dd sl) ⟨ho, rfl, ⟨_, ho, rfl⟩, ?_⟩)
  rcases q with ⟨h, q⟩ | ⟨⟨h, hne⟩, q⟩
  · have c1 : (its.toArray.isEmpty || k == 1) = true := by
      rcases h with rfl | ⟨h, _⟩
      · simp
      · subst h
        have : its = [] := List.length_eq_zero_iff.mp hle.symm
        subst this
        rfl
    exact call_meets F.slot_tuple_mul ⟨_, ho, rfl⟩ F.entry_tuple_mul (F.args_tuple_mul_2 _ _) (tup_once l its.toArray n dd sl k t c0 c1) ⟨ho, .ref l, H, I, rfl, q⟩
  · have ne : its ≠ [] := fun e => hne (List.length_eq_zero_iff.mp (by rw [hle, e]; rfl))
    have e0 : its.toArray.isEmpty = false := by cases its with
      | nil => exact absurd rfl ne
      | cons a b => rfl
    have c1 : (its.toArray.isEmpty || k == 1) = false := by rw [e0, h]; rfl
    have c2 : (decide (k ≤ 0) || its.toArray.isEmpty) = true := by rw [h]; rfl
    refine call_meets F.slot_tuple_mul ⟨_, ho, rfl⟩ F.entry_tuple_mul (F.args_tuple_mul_2 _ _) (tup_never l its.toArray n dd sl k t c0 c1 c2) ⟨ho, .ref s.heap.objs.size, _, I.laid (t' := s.toks) (o := .tup []) (fun b ob q => Heap.get?_push_of_some _ q) (Nat.le_refl _) ?_, rfl, q _ (I.hok.fresh (Nat.le_refl _))⟩
    exact ⟨Nat.zero_le _, [], .nil, IsTup.new _ _⟩
end
end DL
set_option Elab.async false
set_option linter.all false
set_option maxRecDepth 100000
set_option maxHeartbeats 4000000
namespace DL
open PySem PySem.Spec PyProof.Rows L2

def P.stuck {α : Type} : P α := fun _ => none
/-- a new list -/
def newL (xs : List D) : P D := fun hs => some (.loc hs.length, hs ++ [.lst xs])

/-! ## data -/
mutual
def D.py (f : Nat → Option PyData) : D → Option PyData
  | .non => some .none
  | .bl b => some (.bool b)
  | .int i => some (.int i)
  | .str x => some (.str x)
  | .tup xs => (D.pys f xs).map .tuple
  | .frl xs => (D.pys f xs).map .list
  | .loc n => f n
  | .glo _ => none
  | .exv .. => none
  | .ty _ => none
def D.pys (f : Nat → Option PyData) : List D → Option (List PyData)
  | [] => some []
  | d :: ds => match D.py f d, D.pys f ds with
    | some a, some b => some (a :: b)
    | _, _ => none
end
def derefs (hs : Hs) : Nat → Nat → Option PyData
  | 0, _ => none
  | k + 1, n => match hs[n]? with
    | some (.lst xs) => (D.pys (derefs hs k) xs).map .list
    | _ => none
def D.data (hs : Hs) (d : D) : Option PyData := d.py (derefs hs 40)
def eqDd (hs : Hs) (a b : D) : Option Bool := match a.data hs, b.data hs with
  | some p, some q => if (SeqAt.shaped p && SeqAt.shaped q) = true then some (PyData.eqv p q) else none
  | _, _ => none
def eqD (hs : Hs) (a b : D) : Option Bool := match a, b with
  | .str x, .str y => some (decide (x = y))
  | a, b => eqDd hs a b

section
variable {K : PySem.W.Frag} {mg : Str → Option Value} {m : List Addr} {H : Hp} {hs : Hs}
mutual
theorem py_ok {f : Nat → Option PyData} (hf : ∀ n p v, f n = some p → RV K mg m H (.loc n) v → Dp K H v p) : ∀ {d : D} {p : PyData} {v : V}, d.py f = some p → RV K mg m H d v → Dp K H v p
  | .non, _, _, h, r => by simp only [D.py] at h; cases h; simp only [RV] at r; subst r; exact .non
  | .bl b, _, _, h, r => by simp only [D.py] at h; cases h; simp only [RV] at r; subst r; exact .bl b
  | .int i, _, _, h, r => by simp only [D.py] at h; cases h; simp only [RV] at r; subst r; exact .int i
  | .str x, _, _, h, r => by simp only [D.py] at h; cases h; simp only [RV] at r; subst r; exact .str x
  | .loc n, p, v, h, r => by simp only [D.py] at h; exact hf n p v h r
  | .glo _, _, _, h, _ => by simp only [D.py] at h; cases h
  | .exv .., _, _, h, _ => by simp only [D.py] at h; cases h
  | .ty _, _, _, h, _ => by simp only [D.py] at h; cases h
  | .tup xs, _, _, h, r => by
    simp only [D.py] at h
    obtain ⟨q, e, rfl⟩ := Option.map_eq_some_iff.mp h
    simp only [RV] at r
    obtain ⟨a, vs, rfl, h1, h2⟩ := r
    exact .tup h1 (pys_ok hf e h2)
  | .frl xs, _, _, h, r => by
    simp only [D.py] at h
    obtain ⟨q, e, rfl⟩ := Option.map_eq_some_iff.mp h
    simp only [RV] at r
    obtain ⟨a, vs, rfl, h1, h2⟩ := r
    exact .lst h1.sql (pys_ok hf e h2)
theorem pys_ok {f : Nat → Option PyData} (hf : ∀ n p v, f n = some p → RV K mg m H (.loc n) v → Dp K H v p) : ∀ {ds : List D} {ps : List PyData} {vs : List V}, D.pys f ds = some ps → RVs K mg m H ds vs → DpAll K H vs ps
  | [], _, _, h, r => by simp only [D.pys] at h; cases h; rw [RVs.nil_iff] at r; subst r; exact .nil
  | d :: ds, _, _, h, r => by
    simp only [D.pys] at h
    obtain ⟨v, w, rfl, r1, r2⟩ := RVs.cons_iff.mp r
    cases e1 : D.py f d with
    | none => rw [e1] at h; cases h
    | some p =>
      cases e2 : D.pys f ds with
      | none => rw [e1, e2] at h; cases h
      | some q =>
        rw [e1, e2] at h
        cases h
        exact .cons (py_ok hf e1 r1) (pys_ok hf e2 r2)
end
theorem derefs_ok (hr : HR K mg m hs H) : ∀ (k n : Nat) (p : PyData) (v : V), derefs hs k n = some p → RV K mg m H (.loc n) v → Dp K H v p
  | 0, _, _, _, h, _ => by cases h
  | k + 1, n, p, v, h, r => by
    simp only [derefs] at h
    simp only [RV] at r
    obtain ⟨a, rfl, hm⟩ := r
    obtain ⟨o, ho, ro⟩ := hr.at' hm
    rw [ho] at h
    cases o with
    | lst xs =>
      obtain ⟨q, e, rfl⟩ := Option.map_eq_some_iff.mp h
      obtain ⟨vs, h1, h2⟩ := ro
      exact .lst (SqL.of h1) (pys_ok (derefs_ok hr k) e h2)
    | dct _ => cases h
    | dcn _ => cases h
    | ins _ _ => cases h
    | set _ => cases h
theorem data_ok (hr : HR K mg m hs H) {d : D} {p : PyData} {v : V} (h : d.data hs = some p) (r : RV K mg m H d v) : Dp K H v p := py_ok (derefs_ok hr 40) h r
end

/-! ## primitive operations by value -/
section
variable (K : PySem.W.Frag) (mg : Str → Option Value)
/-- what is wanted behind a result -/
abbrev Bk (m : List Addr) (H : Hp) (d : D) (hs' : Hs) (Q : VK) : Prop := ∀ m' H' v, Ext K m H m' H' → HR K mg m' hs' H' → RV K mg m' H' d v → Q v H'
def rP2 (f : D → D → P D) : R2 := fun x y H Q => ∃ m hs a b d hs', HR K mg m hs H ∧ RV K mg m H a x ∧ RV K mg m H b y ∧ f a b hs = some (d, hs') ∧ Bk K mg m H d hs' Q
def rPn (f : List D → P D) : List V → Hp → VK → Prop := fun vs H Q => ∃ m hs ds d hs', HR K mg m hs H ∧ RVs K mg m H ds vs ∧ f ds hs = some (d, hs') ∧ Bk K mg m H d hs' Q
def rP1 (f : D → P D) : V → Hp → VK → Prop := fun x H Q => ∃ m hs a d hs', HR K mg m hs H ∧ RV K mg m H a x ∧ f a hs = some (d, hs') ∧ Bk K mg m H d hs' Q
end
section
variable {K : PySem.W.Frag} {mg : Str → Option Value} {m : List Addr} {H : Hp} {hs hs' : Hs} {Q : VK} {d : D}
theorem Bk.here (k : Bk K mg m H d hs' Q) (hr : HR K mg m hs' H) {v : V} (r : RV K mg m H d v) : Q v H := k m H v .refl hr r
theorem Bk.tup {xs : List D} {vs : List V} (k : Bk K mg m H (.tup xs) hs' Q) (hr : HR K mg m hs' H) (r : RVs K mg m H xs vs) {p : Addr} (e : H p = none) : Q (.ref p) (upd H p (.tup vs)) :=
  k m _ _ (Ext.upd_new e) (hr.upd_new e) (by simp only [RV]; exact ⟨p, vs, rfl, SqT.of upd_same, r.mono (Ext.upd_new e)⟩)
theorem Bk.lst {xs : List D} {vs : List V} (k : Bk K mg m H (.loc hs.length) (hs ++ [.lst xs]) Q) (hr : HR K mg m hs H) (r : RVs K mg m H xs vs) {p : Addr} (e : H p = none) : Q (.ref p) (upd H p (.lst vs)) :=
  k (m ++ [p]) _ _ (Ext.push e) (hr.push e ⟨vs, upd_same, r.mono (Ext.push e)⟩) (by simp only [RV]; exact ⟨p, rfl, by simp [← hr.len]⟩)
theorem rv_tup {xs : List D} {v : V} (r : RV K mg m H (.tup xs) v) : ∃ a vs, v = .ref a ∧ SqT K H a vs ∧ RVs K mg m H xs vs := by simpa only [RV] using r
theorem rv_loc {n : Nat} {v : V} (r : RV K mg m H (.loc n) v) : ∃ a, v = .ref a ∧ m[n]? = some a := by simpa only [RV] using r
theorem rv_frl {xs : List D} {v : V} (r : RV K mg m H (.frl xs) v) : ∃ a vs, v = .ref a ∧ SqF K H a vs ∧ RVs K mg m H xs vs := by simpa only [RV] using r
theorem rv_int {i : Int} {v : V} (r : RV K mg m H (.int i) v) : v = .int i := by simpa only [RV] using r
theorem rv_bl {i : Bool} {v : V} (r : RV K mg m H (.bl i) v) : v = .bl i := by simpa only [RV] using r
theorem rv_str {i : Str} {v : V} (r : RV K mg m H (.str i) v) : v = .str i := by simpa only [RV] using r
theorem rv_non {v : V} (r : RV K mg m H .non v) : v = .non := by simpa only [RV] using r
theorem rv_ty {n : String} {v : V} (r : RV K mg m H (.ty n) v) : v = .ty n := by simpa only [RV] using r
theorem mk_int {i : Int} : RV K mg m H (.int i) (.int i) := by simp only [RV]
theorem mk_bl {i : Bool} : RV K mg m H (.bl i) (.bl i) := by simp only [RV]
theorem mk_str {i : Str} : RV K mg m H (.str i) (.str i) := by simp only [RV]
theorem mk_non : RV K mg m H .non .non := by simp only [RV]
theorem mk_ty {n : String} : RV K mg m H (.ty n) (.ty n) := by simp only [RV]
theorem mk_tup {xs : List D} {a : Addr} {vs : List V} (h : SqT K H a vs) (r : RVs K mg m H xs vs) : RV K mg m H (.tup xs) (.ref a) := by simp only [RV]; exact ⟨a, vs, rfl, h, r⟩
theorem HR.lst_at (hr : HR K mg m hs H) {n : Nat} {a : Addr} {xs : List D} (hm : m[n]? = some a) (e : hs[n]? = some (.lst xs)) : ∃ vs, H a = some (.lst vs) ∧ RVs K mg m H xs vs := hr.ob n _ a e hm
/-- a list is read, whoever owns it -/
def listOf (hs : Hs) : D → Option (List D)
  | .loc n => match hs[n]? with
    | some (.lst xs) => some xs
    | _ => none
  | .frl xs => some xs
  | _ => none
theorem list_of {d : D} {xs : List D} {v : V} (hr : HR K mg m hs H) (r : RV K mg m H d v) (e : listOf hs d = some xs) : ∃ a vs, v = .ref a ∧ SqL K H a vs ∧ RVs K mg m H xs vs := by
  cases d with
  | loc n =>
    obtain ⟨a, rfl, hm⟩ := rv_loc r
    obtain ⟨o, ho, ro⟩ := hr.at' hm
    simp only [listOf, ho] at e
    cases o with
    | lst ys => cases e; obtain ⟨vs, h1, h2⟩ := ro; exact ⟨a, vs, rfl, SqL.of h1, h2⟩
    | dct _ => cases e
    | dcn _ => cases e
    | ins _ _ => cases e
    | set _ => cases e
  | frl ys =>
    simp only [listOf] at e; cases e
    obtain ⟨a, vs, rfl, h1, h2⟩ := rv_frl r
    exact ⟨a, vs, rfl, h1.sql, h2⟩
  | _ => simp only [listOf] at e; cases e
end

def addD (a b : D) : P D := match a, b with
  | .int i, .int j => P.pure (.int (i + j))
  | .str x, .str y => if x.length + y.length ≤ sizeLine then P.pure (.str (x ++ y)) else P.stuck
  | .tup xs, .tup ys => if xs.length + ys.length ≤ sizeLine then P.pure (.tup (xs ++ ys)) else P.stuck
  | .loc m, .loc n => fun hs => match hs[m]?, hs[n]? with
    | some (.lst xs), some (.lst ys) => if xs.length + ys.length ≤ sizeLine then newL (xs ++ ys) hs else none
    | _, _ => none
  | _, _ => P.stuck
def subD (a b : D) : P D := match a, b with
  | .int i, .int j => P.pure (.int (i - j))
  | _, _ => P.stuck
/-- a text so many times -/
def strTimes (x : Str) (n : Nat) : Str := ⟨(List.replicate n x.cps).foldl (· ++ ·) #[]⟩
theorem foldl_cat : ∀ (l : List (Array Nat)) (a : Array Nat), (l.foldl (· ++ ·) a).toList = a.toList ++ (l.map Array.toList).flatten
  | [], a => by simp
  | x :: l, a => by rw [List.foldl_cons, foldl_cat l]; simp
theorem strTimes_tl (x : Str) (n : Nat) : (strTimes x n).cps.toList = (List.replicate n x.cps.toList).flatten := by
  unfold strTimes
  rw [foldl_cat]
  simp
theorem strTimes_length (x : Str) (n : Nat) : (strTimes x n).length = n * x.length := by
  have h : (strTimes x n).cps.toList.length = n * x.cps.toList.length := by rw [strTimes_tl]; simp
  simpa [Str.length] using h
def mulD (a b : D) : P D := match a, b with
  | .str x, .int k => if 0 ≤ k ∧ k ≤ 1000 ∧ x.length ≤ 1000 then P.pure (.str (strTimes x k.toNat)) else P.stuck
  | .int i, .int j => if ((-(2 ^ 64) < i ∧ i < 2 ^ 64) ∨ (-(2 ^ 64) < j ∧ j < 2 ^ 64)) ∨ (i.natAbs < 2 ^ 9000 ∧ j.natAbs < 2 ^ 9000) then P.pure (.int (i * j)) else P.stuck
  | .tup xs, .int k => if 0 ≤ k ∧ k ≤ 1000 ∧ xs.length ≤ 1000 then P.pure (.tup (List.replicate k.toNat xs).flatten) else P.stuck
  | .loc n, .int k => fun hs => match hs[n]? with
    | some (.lst xs) => if 0 ≤ k ∧ k ≤ 4000 ∧ xs.length ≤ 4000 then newL (List.replicate k.toNat xs).flatten hs else none
    | _ => none
  | _, _ => P.stuck
def fdivD (a b : D) : P D := match a, b with
  | .int i, .int j => if 0 < j ∧ j.natAbs < 2 ^ 9000 then P.pure (.int (i / j)) else P.stuck
  | _, _ => P.stuck
def modD (a b : D) : P D := match a, b with
  | .int i, .int j => if 0 < j then P.pure (.int (i % j)) else P.stuck
  | _, _ => P.stuck
def powD (a b : D) : P D := match a, b with
  | .int i, .int j => if 0 ≤ j ∧ j ≤ 1000000 ∧ i.natAbs < 2 ^ 64 then P.pure (.int (i ^ j.toNat)) else P.stuck
  | _, _ => P.stuck
def shlD (a b : D) : P D := match a, b with
  | .int i, .int j => if 0 ≤ j ∧ j ≤ 1000000 ∧ i.natAbs < 2 ^ 64 then P.pure (.int (i * 2 ^ j.toNat)) else P.stuck
  | _, _ => P.stuck
def binD : Operator → D → D → P D
  | .Add => addD
  | .Sub => subD
  | .Mult => mulD
  | .FloorDiv => fdivD
  | .Mod => modD
  | .Pow => powD
  | .LShift => shlD
  | _ => fun _ _ => P.stuck

section
variable {X : Cx}
theorem stuck_no {α : Type} {hs : Hs} {r : α × Hs} (h : (P.stuck : P α) hs = some r) : False := by cases h
theorem addD_ok : OpR X (binaryOp .Add) (rP2 X.K X.mg addD) := by
  intro pins s σ H x y v u Q I rx ry h
  obtain ⟨m, hs, a, b, d, hs', hr, ra, rb, hf, k⟩ := h
  unfold addD at hf
  split at hf
  · cases hf
    obtain rfl := rv_int ra
    obtain rfl := rv_int rb
    exact op_add pins s σ H _ _ v u Q I rx ry ⟨_, _, rfl, rfl, k.here hr mk_int⟩
  · split at hf
    · rename_i hz
      cases hf
      obtain rfl := rv_str ra
      obtain rfl := rv_str rb
      exact op_add_str pins s σ H _ _ v u Q I rx ry ⟨_, _, rfl, rfl, hz, k.here hr mk_str⟩
    · exact (stuck_no hf).elim
  · split at hf
    · rename_i hz
      cases hf
      obtain ⟨p, us, rfl, h1, q1⟩ := rv_tup ra
      obtain ⟨q, ws, rfl, h2, q2⟩ := rv_tup rb
      refine op_catA pins s σ H _ _ v u Q I rx ry ⟨p, q, us, ws, rfl, rfl, h1, h2, by rw [← q1.length, ← q2.length]; exact hz, fun e => ?_, fun _ e => ?_, fun _ _ p' hp => ?_⟩
      · subst e
        have := q1.length
        obtain rfl := List.length_eq_zero_iff.mp this
        exact k.here hr (mk_tup h2 q2)
      · subst e
        have := q2.length
        obtain rfl := List.length_eq_zero_iff.mp this
        refine k.here hr (mk_tup h1 (by simpa using q1))
      · exact k.tup hr (q1.append q2) hp
    · exact (stuck_no hf).elim
  · rename_i l n
    obtain ⟨p, rfl, hm1⟩ := rv_loc ra
    obtain ⟨q, rfl, hm2⟩ := rv_loc rb
    cases e1 : hs[l]? with
    | none => rw [e1] at hf; cases hf
    | some o1 =>
      cases e2 : hs[n]? with
      | none => rw [e1, e2] at hf; cases o1 <;> cases hf
      | some o2 =>
        rw [e1, e2] at hf
        cases o1 with
        | lst xs =>
          cases o2 with
          | lst ys =>
            simp only at hf
            split at hf
            · rename_i hz
              cases hf
              obtain ⟨us, h1, q1⟩ := hr.lst_at hm1 e1
              obtain ⟨ws, h2, q2⟩ := hr.lst_at hm2 e2
              exact op_cat pins s σ H _ _ v u Q I rx ry ⟨p, q, us, ws, rfl, rfl, h1, h2, by rw [← q1.length, ← q2.length]; exact hz, fun p' hp => k.lst hr (q1.append q2) hp⟩
            · cases hf
          | dct _ => cases hf
          | dcn _ => cases hf
          | ins _ _ => cases hf
          | set _ => cases hf
        | dct _ => cases hf
        | dcn _ => cases hf
        | ins _ _ => cases hf
        | set _ => cases hf
  · exact (stuck_no hf).elim
theorem subD_ok : OpR X (binaryOp .Sub) (rP2 X.K X.mg subD) := by
  intro pins s σ H x y v u Q I rx ry h
  obtain ⟨m, hs, a, b, d, hs', hr, ra, rb, hf, k⟩ := h
  unfold subD at hf
  split at hf
  · cases hf
    obtain rfl := rv_int ra
    obtain rfl := rv_int rb
    exact op_sub pins s σ H _ _ v u Q I rx ry ⟨_, _, rfl, rfl, k.here hr mk_int⟩
  · exact (stuck_no hf).elim
theorem rvs_rep {K : PySem.W.Frag} {mg : Str → Option Value} {m : List Addr} {H : Hp} {xs : List D} {vs : List V} (h : RVs K mg m H xs vs) : ∀ k : Nat, RVs K mg m H (List.replicate k xs).flatten (List.replicate k vs).flatten
  | 0 => RVs.nil_iff.mpr rfl
  | k + 1 => by
    rw [List.replicate_succ, List.replicate_succ, List.flatten_cons, List.flatten_cons]
    exact h.append (rvs_rep h k)
theorem mulD_ok : OpR X (binaryOp .Mult) (rP2 X.K X.mg mulD) := by
  intro pins s σ H x y v u Q I rx ry h
  obtain ⟨m, hs, a, b, d, hs', hr, ra, rb, hf, k⟩ := h
  unfold mulD at hf
  split at hf
  · split at hf
    · rename_i x0 k0 hc
      cases hf
      obtain rfl := rv_str ra
      obtain rfl := rv_int rb
      obtain ⟨t, rfl⟩ := rx
      obtain ⟨t', rfl⟩ := ry
      have small : x0.length * k0.toNat ≤ 1000000 := by
        have := Nat.mul_le_mul hc.2.2 (show k0.toNat ≤ 1000 by omega)
        omega
      have fits : x0.length * k0.toNat ≤ sizeLine := Nat.le_trans small (by rw [sizeLine_eq]; decide)
      have hQ := k.here hr (mk_str (i := strTimes x0 k0.toNat))
      refine PySem.P.mul_str (by have h1 : ¬ k0 < -(2 ^ 63 : Int) := by omega
                                 have h2 : ¬ k0 ≥ 2 ^ 63 := by omega
                                 rw [decide_eq_false h1, decide_eq_false h2]; rfl) (fun h1 _ => ?_) (fun _ _ => ?_) ?_
      · have h3 : (x0.length : Int) ≤ 1000 := by omega
        have h4 : (1000 : Int) ≤ (2 ^ 63 - 1) / k0 := (Int.le_ediv_iff_mul_le (by omega)).mpr (by omega)
        omega
      · unfold PySem.Builtin.Str.tooLong
        simpa using fits
      · split
        · rename_i h1
          have hz : k0.toNat = 0 := by omega
          rw [hz] at hQ
          exact ⟨by rw [sizeLine_eq]; decide, .str _, H, I.tok _, ⟨_, rfl⟩, hQ⟩
        · split
          · rename_i h1 h2
            have e : strTimes x0 k0.toNat = x0 := by
              refine PySem.Str.ext' (Array.toList_inj.mp ?_)
              rw [strTimes_tl]
              simp only [Bool.or_eq_true, beq_iff_eq] at h2
              rcases h2 with h2 | h2
              · subst h2; simp
              · have : x0.cps.toList = [] := List.length_eq_zero_iff.mp (by simpa [Str.length] using h2)
                rw [this]; simp
            rw [e] at hQ
            exact ⟨.str _, H, I, ⟨_, rfl⟩, hQ⟩
          · exact ⟨by show (strTimes x0 k0.toNat).length ≤ _; rw [strTimes_length, Nat.mul_comm]; exact fits, .str _, H, I.tok _, ⟨_, rfl⟩, hQ⟩
    · exact (stuck_no hf).elim
  · split at hf
    · rename_i hc
      cases hf
      obtain rfl := rv_int ra
      obtain rfl := rv_int rb
      rcases hc with hc | ⟨h1, h2⟩
      · exact op_mul pins s σ H _ _ v u Q I rx ry ⟨_, _, rfl, rfl, hc, k.here hr mk_int⟩
      · exact op_mulW pins s σ H _ _ v u Q I rx ry ⟨_, _, rfl, rfl, wide_mul h1 h2 (by decide) (by decide) (by decide), k.here hr mk_int⟩
    · exact (stuck_no hf).elim
  · split at hf
    · rename_i hc
      rename_i xs k0
      obtain ⟨h2, h3, hz⟩ := hc
      cases hf
      obtain ⟨p, us, rfl, h1, q1⟩ := rv_tup ra
      obtain rfl := rv_int rb
      have hl := q1.length
      by_cases one : k0 = 1
      · subst one
        exact op_repF pins s σ H _ _ v u Q I rx ry ⟨p, _, us, rfl, rfl, h1, .inl ⟨.inl rfl, k.here hr (mk_tup h1 (by simpa using q1))⟩⟩
      by_cases em : us = []
      · subst em
        have : xs = [] := List.length_eq_zero_iff.mp hl
        subst this
        have fl : (List.replicate k0.toNat ([] : List D)).flatten = [] := by simp
        rw [fl] at k
        exact op_repF pins s σ H _ _ v u Q I rx ry ⟨p, _, [], rfl, rfl, h1, .inl ⟨.inr ⟨rfl, h2, h3⟩, k.here hr (mk_tup h1 q1)⟩⟩
      by_cases ze : k0 = 0
      · subst ze
        exact op_repF pins s σ H _ _ v u Q I rx ry ⟨p, _, us, rfl, rfl, h1, .inr ⟨⟨rfl, em⟩, fun p' hp => k.tup hr (RVs.nil_iff.mpr rfl) hp⟩⟩
      have hne : xs ≠ [] := fun e => em (by subst e; exact RVs.nil_iff.mp q1)
      have h2 : 2 ≤ k0 := by omega
      refine op_repT pins s σ H _ _ v u Q I rx ry ⟨p, _, us, rfl, rfl, h1, fun e => hne ?_, h2, h3, by omega, fun p' hp => k.tup hr (rvs_rep q1 _) hp⟩
      subst e
      exact List.length_eq_zero_iff.mp hl
    · exact (stuck_no hf).elim
  · rename_i n j
    obtain ⟨p, rfl, hm1⟩ := rv_loc ra
    obtain rfl := rv_int rb
    cases e1 : hs[n]? with
    | none => rw [e1] at hf; cases hf
    | some o1 =>
      rw [e1] at hf
      cases o1 with
      | lst xs =>
        simp only at hf
        split at hf
        · rename_i hz
          cases hf
          obtain ⟨us, h1, q1⟩ := hr.lst_at hm1 e1
          have hl := q1.length
          refine op_rep pins s σ H _ _ v u Q I rx ry ⟨p, _, us, rfl, rfl, h1, by omega, by omega, ?_, fun p' hp => k.lst hr (rvs_rep q1 _) hp⟩
          rw [sizeLine_eq]
          have a1 : us.length * j.toNat ≤ 4000 * 4000 := Nat.mul_le_mul (by omega) (by omega)
          omega
        · cases hf
      | dct _ => cases hf
      | dcn _ => cases hf
      | ins _ _ => cases hf
      | set _ => cases hf
  · exact (stuck_no hf).elim
theorem fdivD_ok : OpR X (binaryOp .FloorDiv) (rP2 X.K X.mg fdivD) := by
  intro pins s σ H x y v u Q I rx ry h
  obtain ⟨m, hs, a, b, d, hs', hr, ra, rb, hf, k⟩ := h
  unfold fdivD at hf
  split at hf
  · split at hf
    · rename_i hc
      cases hf
      obtain rfl := rv_int ra
      obtain rfl := rv_int rb
      exact op_fdivW pins s σ H _ _ v u Q I rx ry ⟨_, _, rfl, rfl, wide_div hc.1 hc.2 (by decide) (by decide), k.here hr mk_int⟩
    · exact (stuck_no hf).elim
  · exact (stuck_no hf).elim
theorem modD_ok : OpR X (binaryOp .Mod) (rP2 X.K X.mg modD) := by
  intro pins s σ H x y v u Q I rx ry h
  obtain ⟨m, hs, a, b, d, hs', hr, ra, rb, hf, k⟩ := h
  unfold modD at hf
  split at hf
  · split at hf
    · rename_i hc
      cases hf
      obtain rfl := rv_int ra
      obtain rfl := rv_int rb
      exact op_mod pins s σ H _ _ v u Q I rx ry ⟨_, _, rfl, rfl, hc, k.here hr mk_int⟩
    · exact (stuck_no hf).elim
  · exact (stuck_no hf).elim
theorem powD_ok : OpR X (binaryOp .Pow) (rP2 X.K X.mg powD) := by
  intro pins s σ H x y v u Q I rx ry h
  obtain ⟨m, hs, a, b, d, hs', hr, ra, rb, hf, k⟩ := h
  unfold powD at hf
  split at hf
  · split at hf
    · rename_i hc
      cases hf
      obtain rfl := rv_int ra
      obtain rfl := rv_int rb
      exact op_pow pins s σ H _ _ v u Q I rx ry ⟨_, _, rfl, rfl, hc, k.here hr mk_int⟩
    · exact (stuck_no hf).elim
  · exact (stuck_no hf).elim
theorem shlD_ok : OpR X (binaryOp .LShift) (rP2 X.K X.mg shlD) := by
  intro pins s σ H x y v u Q I rx ry h
  obtain ⟨m, hs, a, b, d, hs', hr, ra, rb, hf, k⟩ := h
  unfold shlD at hf
  split at hf
  · split at hf
    · rename_i hc
      cases hf
      obtain rfl := rv_int ra
      obtain rfl := rv_int rb
      exact op_shl pins s σ H _ _ v u Q I rx ry ⟨_, _, rfl, rfl, hc, k.here hr mk_int⟩
    · exact (stuck_no hf).elim
  · exact (stuck_no hf).elim
theorem no_op {f : Value → Value → Sem Value} : OpR X f (rP2 X.K X.mg fun _ _ => P.stuck) := by
  intro pins s σ H x y v u Q I rx ry h
  obtain ⟨m, hs, a, b, d, hs', hr, ra, rb, hf, k⟩ := h
  exact (stuck_no hf).elim
theorem binD_ok (op : Operator) : OpR X (binaryOp op) (rP2 X.K X.mg (binD op)) := by
  cases op with
  | Add => exact addD_ok
  | Sub => exact subD_ok
  | Mult => exact mulD_ok
  | FloorDiv => exact fdivD_ok
  | Mod => exact modD_ok
  | Pow => exact powD_ok
  | LShift => exact shlD_ok
  | _ => exact no_op
end
end DL
set_option Elab.async false
set_option linter.all false
set_option maxRecDepth 100000
set_option maxHeartbeats 4000000
namespace DL
open PySem PySem.Spec PyProof.Rows L2

/-! ## any thing against the empty tuple -/
section
variable {prog : Program} {w : World} {A : Around} {E : Value → Shared → Prop} {s : Shared}
theorem dict_eq_tuple (l b : Addr) : Meets (Builtin.«dict.__eq__» ⟨[.ref l, .ref b], []⟩) (fun _ R s => s.TypeIs (.ref l) "dict" ∧ s.TypeIs (.ref b) "tuple" ∧ R (.ok (.ret .notImplemented)) s) :=
  .of_wp fun prog w A R s ⟨hl, hb, h⟩ => by
    show wpAny _ _ (Builtin.Dict.dictSlotArgs "__eq__" ⟨[.ref l, .ref b], []⟩ >>= _) _ _ s
    refine wpAny_bind ?_
    unfold Builtin.Dict.dictSlotArgs
    refine wpAny_bind (wpAny_notOrdered_dict hl ?_)
    show wpAny _ _ (pure (Value.ref l, Value.ref b)) _ _ s
    refine wpAny_pure ?_
    show wpAny _ _ (isInstance (.ref b) (.type "dict") >>= _) _ _ s
    refine wpAny_bind (wpAny_isInstance hb PySem.F.sub_tuple_dict ?_)
    simp only [Bool.not_false, if_true]
    refine wpAny_bind (wpAny_rule (wpAny_pure ⟨_, rfl, h⟩))
theorem tuple_eq_dict (l b : Addr) (items : Array Value) (n : Nat) (dd : Option Addr) (sl : Array (Option Value)) : Meets (Builtin.«tuple.__eq__» ⟨[.ref l, .ref b], []⟩) (fun _ R s => s.TypeIs (.ref b) "dict" ∧ R (.ok (.ret .notImplemented)) s) :=
  .of_wp fun prog w A R s ⟨hb, h⟩ => by
    show wpAny _ _ (isInstance (.ref b) (.type "tuple") >>= _) _ _ s
    refine wpAny_bind (wpAny_isInstance hb PySem.F.sub_dict_tuple ?_)
    simp only [Bool.not_false, if_true]
    exact wpAny_pure ⟨_, rfl, h⟩
end
end DL
namespace DL
open PySem PySem.Spec PyProof.Rows L2
section
variable {prog : Program} {w : World} {A : Around} {E : Value → Shared → Prop} {s : Shared}
theorem rc_dict_tuple {l b : Addr} {o o2 : Obj} (ho : s.heap.get? l = some o) (hc : o.cls = .type "dict") (ho2 : s.heap.get? b = some o2) (hc2 : o2.cls = .type "tuple") (hu : A.units < cLine) : SeqAt.RcAt A s (.ref l) (.ref b) false := fun prog w E Q h => by
  have hne : l ≠ b := fun e => by
    subst e
    rw [ho] at ho2
    cases ho2
    rw [hc] at hc2
    exact absurd hc2 (by decide)
  have t1 : s.TypeIs (.ref l) "dict" := ⟨_, ho, hc⟩
  have t2 : s.TypeIs (.ref b) "tuple" := ⟨_, ho2, hc2⟩
  exact SeqAt.rc_eq_decline_or (k := false) t1 t2 (by decide) PySem.F.sub_tuple_dict PySem.F.slot_dict_eq PySem.F.slot_tuple_eq_refl
    (fun _ hq => call_meets PySem.F.slot_dict_eq t1 PySem.F.entry_dict_eq (PySem.F.args_dict_eq_2 _ _) (dict_eq_tuple l b) ⟨t1, t2, hq⟩)
    (fun _ hq => call_meets PySem.F.slot_tuple_eq_refl t2 PySem.F.entry_tuple_eq (PySem.F.args_tuple_eq_2 _ _) (tuple_eq_dict b l #[] 0 none #[]) ⟨t1, hq⟩)
    (fun _ hq => wpAny_isSame_ref_other hne ho ho2 (by rw [hc]; decide) hq) (.inr hu) h
/-- what a thing tells against the empty tuple -/
def EqNil (K : PySem.W.Frag) (H : Hp) : V → Bool → Prop
  | .non, c => c = false
  | .bl _, c => c = false
  | .int _, c => c = false
  | .str _, c => c = false
  | .ref a, c => (∃ xs, SqL K H a xs ∧ c = false) ∨ (∃ xs, SqT K H a xs ∧ c = xs.isEmpty) ∨ ∃ kvs, Rd H a (.dK kvs) ∧ c = false
  | _, _ => False
theorem op_eqNil {X : Cx} (hu : X.A.units + 64 < cLine) : OpR X (compareOp .Eq) (fun x y H Q => ∃ t c, y = .ref t ∧ SqT X.K H t [] ∧ EqNil X.K H x c ∧ Q (.bl c) H) := by
  intro pins s σ H x y v u Q I rx ry h
  obtain ⟨t, c, rfl, hT, hE, q⟩ := h
  cases ry
  obtain ⟨its, rv, p, hz⟩ := I.tuple hT
  cases rv
  have p : s.heap.IsTuple t #[] := p
  have hu' : X.A.units < cLine := by omega
  cases x with
  | non => cases rx; cases hE; exact SeqAt.RcAt.none_tuple p hu' X.prog X.w _ _ ⟨.bl false, H, I, rfl, q⟩
  | bl b => cases rx; cases hE; exact SeqAt.RcAt.bool_tuple b p hu' X.prog X.w _ _ ⟨.bl false, H, I, rfl, q⟩
  | int i => obtain ⟨t, rfl⟩ := rx; cases hE; exact SeqAt.RcAt.int_tuple i t p hu' X.prog X.w _ _ ⟨.bl false, H, I, rfl, q⟩
  | str i => obtain ⟨t, rfl⟩ := rx; cases hE; exact SeqAt.RcAt.str_tuple i t p hu' X.prog X.w _ _ ⟨.bl false, H, I, rfl, q⟩
  | ref a =>
    cases rx
    rcases hE with ⟨xs, hL, rfl⟩ | ⟨xs, hL, rfl⟩ | ⟨kvs, hD, rfl⟩
    · obtain ⟨its, rv, pl, hz⟩ := I.list hL
      exact SeqAt.RcAt.list_tuple pl.isList p hu' X.prog X.w _ _ ⟨.bl false, H, I, rfl, q⟩
    · obtain ⟨its, rv, pl, hz⟩ := I.tuple hL
      have e : xs.isEmpty = (((List.range (min its.toArray.size (#[] : Array Value).size)).all fun _ => true) && its.toArray.size == (#[] : Array Value).size) := by
        cases rv <;> simp
      exact SeqAt.eq_tupleAt (e := fun _ => true) (show s.heap.IsTuple a its.toArray from pl) p hu' (fun j h1 h2 => by simp at h2) ⟨.bl _, H, I, by rw [← e]; rfl, q⟩
    · obtain ⟨z, y, vs, r, o, es, ep, h1, h2, h3⟩ := dk_rd I.hok hD
      obtain ⟨o2, h4, h5, h6⟩ := id p
      exact rc_dict_tuple h1 h2.1 h4 h5 hu' X.prog X.w _ _ ⟨.bl false, H, I, rfl, q⟩
  | _ => exact hE.elim
end
end DL
set_option Elab.async false
set_option linter.all false
set_option maxRecDepth 100000
set_option maxHeartbeats 4000000
namespace DL
open PySem PySem.Spec PyProof.Rows L2

/-! ## dicts whose keys are tuples -/
def keyN : D → Option NestedKey
  | .tup xs => match nkD (.tup xs) with
    | some κ => if κ.depth ≤ 8 then some κ else none
    | none => none
  | _ => none
def findN (kvs : List (D × D)) (κ : NestedKey) : Option D := (kvs.find? fun p => decide (nkD p.1 = some κ)).map (·.2)
def putN (kvs : List (D × D)) (κ : NestedKey) (k d : D) : List (D × D) := if (findN kvs κ).isSome = true then kvs.map (fun p => if nkD p.1 = some κ then (p.1, d) else p) else kvs ++ [(k, d)]
def dropN (kvs : List (D × D)) (κ : NestedKey) : List (D × D) := kvs.filter fun p => decide (nkD p.1 ≠ some κ)
section
variable {K : PySem.W.Frag} {mg : Str → Option Value} {m m' : List Addr} {H H' : Hp}
mutual
theorem nkv_of : ∀ {d : D} {κ : NestedKey} {v : V}, nkD d = some κ → RV K mg m H d v → NKv K H κ v
  | .non, _, _, h, r => by simp only [nkD] at h; cases h; simp only [RV] at r; subst r; exact .non
  | .bl b, _, _, h, r => by simp only [nkD] at h; cases h; simp only [RV] at r; subst r; exact .bl rfl
  | .int i, _, _, h, r => by simp only [nkD] at h; cases h; simp only [RV] at r; subst r; exact .num
  | .tup xs, κ, v, h, r => by
    simp only [nkD] at h
    obtain ⟨ks, h1, rfl⟩ := Option.map_eq_some_iff.mp h
    simp only [RV] at r
    obtain ⟨a, vs, rfl, h2, h3⟩ := r
    exact .tup h2 (nks_of h1 h3)
  | .str _, _, _, h, _ => by simp only [nkD] at h; cases h
  | .frl _, _, _, h, _ => by simp only [nkD] at h; cases h
  | .loc _, _, _, h, _ => by simp only [nkD] at h; cases h
  | .glo _, _, _, h, _ => by simp only [nkD] at h; cases h
  | .ty _, _, _, h, _ => by simp only [nkD] at h; cases h
  | .exv .., _, _, h, _ => by simp only [nkD] at h; cases h
theorem nks_of : ∀ {ds : List D} {ks : List NestedKey} {vs : List V}, nkDs ds = some ks → RVs K mg m H ds vs → NKs K H ks vs
  | [], _, _, h, r => by
    simp only [nkDs] at h
    cases h
    rw [RVs.nil_iff] at r
    subst r
    exact .nil
  | d :: ds, _, _, h, r => by
    simp only [nkDs] at h
    obtain ⟨v, r2, rfl, h1, h2⟩ := RVs.cons_iff.mp r
    cases e1 : nkD d with
    | none => rw [e1] at h; cases h
    | some k =>
      cases e2 : nkDs ds with
      | none => rw [e1, e2] at h; cases h
      | some ks =>
        rw [e1, e2] at h
        cases h
        exact .cons (nkv_of e1 h1) (nks_of e2 h2)
end
mutual
theorem bare_of : ∀ {d : D} {κ : NestedKey}, nkD d = some κ → bareN κ = true
  | .non, _, h => by simp only [nkD] at h; cases h; rfl
  | .bl b, _, h => by simp only [nkD] at h; cases h; rfl
  | .int i, _, h => by simp only [nkD] at h; cases h; rfl
  | .tup xs, κ, h => by
    simp only [nkD] at h
    obtain ⟨ks, h1, rfl⟩ := Option.map_eq_some_iff.mp h
    simp only [bareN]
    exact bares_of h1
  | .str _, _, h => by simp only [nkD] at h; cases h
  | .frl _, _, h => by simp only [nkD] at h; cases h
  | .loc _, _, h => by simp only [nkD] at h; cases h
  | .glo _, _, h => by simp only [nkD] at h; cases h
  | .ty _, _, h => by simp only [nkD] at h; cases h
  | .exv .., _, h => by simp only [nkD] at h; cases h
theorem bares_of : ∀ {ds : List D} {ks : List NestedKey}, nkDs ds = some ks → baresN ks = true
  | [], _, h => by simp only [nkDs] at h; cases h; rfl
  | d :: ds, _, h => by
    simp only [nkDs] at h
    cases e1 : nkD d with
    | none => rw [e1] at h; cases h
    | some k =>
      cases e2 : nkDs ds with
      | none => rw [e1, e2] at h; cases h
      | some ks =>
        rw [e1, e2] at h
        cases h
        simp only [baresN, bare_of e1, bares_of e2, Bool.and_self]
end
theorem RNs.nil_iff {xs : List NE} : RNs K mg m H [] xs ↔ xs = [] := by simp only [RNs]
theorem RNs.cons_iff {k d : D} {ds : List (D × D)} {xs : List NE} : RNs K mg m H ((k, d) :: ds) xs ↔ ∃ κ b u v r, xs = (κ, b, u) :: r ∧ nkD k = some κ ∧ κ.depth ≤ 8 ∧ RV K mg m H k (.ref b) ∧ RV K mg m H d v ∧ RelV v u ∧ RNs K mg m H ds r := by simp only [RNs]
theorem RNs.len : ∀ {kvs : List (D × D)} {xs : List NE}, RNs K mg m H kvs xs → kvs.length = xs.length
  | [], _, h => by rw [RNs.nil_iff] at h; subst h; rfl
  | (k, d) :: ds, _, h => by
    obtain ⟨κ, b, u, v, r, rfl, _, _, _, _, _, h2⟩ := RNs.cons_iff.mp h
    simp [RNs.len h2]
theorem RNs.good : ∀ {kvs : List (D × D)} {xs : List NE}, RNs K mg m H kvs xs → ∀ x ∈ xs, GoodK K H x.1 x.2.1
  | [], _, h, x, hx => by rw [RNs.nil_iff] at h; subst h; cases hx
  | (k, d) :: ds, _, h, x, hx => by
    obtain ⟨κ, b, u, v, r, rfl, h1, h2, h3, _, _, h6⟩ := RNs.cons_iff.mp h
    rcases List.mem_cons.mp hx with rfl | hx
    · exact ⟨nkv_of h1 h3, h2, bare_of h1⟩
    · exact RNs.good h6 x hx
theorem find_pos {kvs : List (D × D)} {p : D × D} {κ : NestedKey} (e : nkD p.1 = some κ) : findN (p :: kvs) κ = some p.2 := by simp [findN, List.find?_cons, e]
theorem find_neg {kvs : List (D × D)} {p : D × D} {κ : NestedKey} (e : ¬ nkD p.1 = some κ) : findN (p :: kvs) κ = findN kvs κ := by simp [findN, List.find?_cons, e]
theorem RNs.find {κ : NestedKey} : ∀ {kvs : List (D × D)} {xs : List NE}, RNs K mg m H kvs xs → (findN kvs κ = none ∧ atKey xs κ = none) ∨ ∃ d p v, findN kvs κ = some d ∧ atKey xs κ = some p ∧ RV K mg m H d v ∧ RelV v p.2
  | [], _, h => by rw [RNs.nil_iff] at h; subst h; exact .inl ⟨rfl, rfl⟩
  | (k, d) :: ds, _, h => by
    obtain ⟨κ', b, u, v, r, rfl, h1, h2, h3, h4, h5, h6⟩ := RNs.cons_iff.mp h
    by_cases e : κ' = κ
    · subst e
      exact .inr ⟨d, (b, u), v, find_pos h1, by simp [atKey, List.find?_cons], h4, h5⟩
    · have e1 : ¬ nkD k = some κ := fun z => e (by rw [h1] at z; exact Option.some.inj z)
      have a1 : atKey ((κ', b, u) :: r) κ = atKey r κ := by simp [atKey, List.find?_cons, e]
      rw [find_neg (p := (k, d)) e1, a1]
      exact RNs.find h6
theorem RNs.repl {κ : NestedKey} {d : D} {v : V} {u : Value} (hd : RV K mg m H d v) (hu : RelV v u) : ∀ {kvs : List (D × D)} {xs : List NE}, RNs K mg m H kvs xs → RNs K mg m H (kvs.map fun p => if nkD p.1 = some κ then (p.1, d) else p) (xs.map (putAt κ u))
  | [], _, h => by rw [RNs.nil_iff] at h; subst h; exact RNs.nil_iff.mpr rfl
  | (k, d0) :: ds, _, h => by
    obtain ⟨κ', b, u0, v0, r, rfl, h1, h2, h3, h4, h5, h6⟩ := RNs.cons_iff.mp h
    rw [List.map_cons, List.map_cons]
    by_cases e : κ' = κ
    · subst e
      rw [if_pos h1]
      exact RNs.cons_iff.mpr ⟨κ', b, u, v, _, by simp [putAt], h1, h2, h3, hd, hu, RNs.repl hd hu h6⟩
    · have e1 : ¬ nkD k = some κ := fun z => e (by rw [h1] at z; exact Option.some.inj z)
      rw [if_neg e1]
      exact RNs.cons_iff.mpr ⟨κ', b, u0, v0, _, by simp [putAt, e], h1, h2, h3, h4, h5, RNs.repl hd hu h6⟩
theorem RNs.snoc {k d : D} {κ : NestedKey} {b : Addr} {v : V} {u : Value} (hk : nkD k = some κ) (h8 : κ.depth ≤ 8) (hb : RV K mg m H k (.ref b)) (hd : RV K mg m H d v) (hu : RelV v u) : ∀ {kvs : List (D × D)} {xs : List NE}, RNs K mg m H kvs xs → RNs K mg m H (kvs ++ [(k, d)]) (xs ++ [(κ, b, u)])
  | [], _, h => by rw [RNs.nil_iff] at h; subst h; exact RNs.cons_iff.mpr ⟨κ, b, u, v, [], rfl, hk, h8, hb, hd, hu, RNs.nil_iff.mpr rfl⟩
  | (k0, d0) :: ds, _, h => by
    obtain ⟨κ', b0, u0, v0, r, rfl, h1, h2, h3, h4, h5, h6⟩ := RNs.cons_iff.mp h
    exact RNs.cons_iff.mpr ⟨κ', b0, u0, v0, _, rfl, h1, h2, h3, h4, h5, RNs.snoc hk h8 hb hd hu h6⟩
theorem RNs.put {k d : D} {κ : NestedKey} {b : Addr} {v : V} {u : Value} {kvs : List (D × D)} {xs : List NE} (h : RNs K mg m H kvs xs) (hk : nkD k = some κ) (h8 : κ.depth ≤ 8) (hb : RV K mg m H k (.ref b)) (hd : RV K mg m H d v) (hu : RelV v u) : RNs K mg m H (putN kvs κ k d) (storedH xs κ b u) := by
  unfold putN storedH
  rcases h.find (κ := κ) with ⟨e1, e2⟩ | ⟨d0, p, v0, e1, e2, _, _⟩
  · rw [e1, e2]
    exact h.snoc hk h8 hb hd hu
  · rw [e1, e2]
    exact h.repl hd hu
theorem RNs.drop {κ : NestedKey} : ∀ {kvs : List (D × D)} {xs : List NE}, RNs K mg m H kvs xs → RNs K mg m H (dropN kvs κ) (withoutH xs κ)
  | [], _, h => by rw [RNs.nil_iff] at h; subst h; exact RNs.nil_iff.mpr rfl
  | (k, d) :: ds, _, h => by
    obtain ⟨κ', b, u, v, r, rfl, h1, h2, h3, h4, h5, h6⟩ := RNs.cons_iff.mp h
    by_cases e : κ' = κ
    · subst e
      have z1 : dropN ((k, d) :: ds) κ' = dropN ds κ' := List.filter_cons_of_neg (by simp [h1])
      have z2 : withoutH ((κ', b, u) :: r) κ' = withoutH r κ' := List.filter_cons_of_neg (by simp)
      rw [z1, z2]
      exact RNs.drop h6
    · have e1 : ¬ nkD k = some κ := fun z => e (by rw [h1] at z; exact Option.some.inj z)
      have z1 : dropN ((k, d) :: ds) κ = (k, d) :: dropN ds κ := List.filter_cons_of_pos (by simp [e1])
      have z2 : withoutH ((κ', b, u) :: r) κ = (κ', b, u) :: withoutH r κ := List.filter_cons_of_pos (by simp [e])
      rw [z1, z2]
      exact RNs.cons_iff.mpr ⟨κ', b, u, v, _, rfl, h1, h2, h3, h4, h5, RNs.drop h6⟩
theorem keyN_some {k : D} {κ : NestedKey} (h : keyN k = some κ) : (∃ xs, k = .tup xs) ∧ nkD k = some κ ∧ κ.depth ≤ 8 := by
  unfold keyN at h
  split at h
  · split at h
    · split at h
      · cases h
        exact ⟨⟨_, rfl⟩, by assumption, by assumption⟩
      · cases h
    · cases h
  · cases h
/-- a good key, by its value -/
theorem keyN_good {k : D} {κ : NestedKey} {y : V} (h : keyN k = some κ) (r : RV K mg m H k y) : ∃ b, y = .ref b ∧ GoodK K H κ b := by
  obtain ⟨⟨xs, rfl⟩, h1, h2⟩ := keyN_some h
  have r' := r
  simp only [RV] at r'
  obtain ⟨b, vs, rfl, _, _⟩ := r'
  exact ⟨b, rfl, nkv_of h1 r, h2, bare_of h1⟩
theorem HR.dcn_at {hs : Hs} (hr : HR K mg m hs H) {n : Nat} {a : Addr} {kvs : List (D × D)} (hm : m[n]? = some a) (e : hs[n]? = some (.dcn kvs)) : ∃ xs, DN K H a xs ∧ RNs K mg m H kvs xs := by
  obtain ⟨xs, h1, h2, h3, h4⟩ := hr.ob _ _ _ e hm
  exact ⟨xs, ⟨h1, h2, h3, h4.good⟩, h4⟩
theorem dnO_plain {a : Addr} {xs : List NE} : (∀ ys, dnO a xs ≠ .tup ys) ∧ (∀ v w, dnO a xs ≠ .frz v w) ∧ ∀ fs, dnO a xs ≠ .xd fs := ⟨(fun _ h => nomatch h), (fun _ _ h => nomatch h), (fun _ h => nomatch h)⟩
end
end DL
set_option Elab.async false
set_option linter.all false
set_option maxRecDepth 100000
set_option maxHeartbeats 4000000
namespace DL
open PySem PySem.Spec PyProof.Rows L2

/-! ## what is done with a dict whose keys are tuples -/
def inN (hs : Hs) (k d : D) : Option Bool := match d with
  | .loc n => (match keyN k, hs[n]? with
    | some κ, some (.dcn kvs) => some (findN kvs κ).isSome
    | some _, some (.dct []) => some false
    | _, _ => none)
  | _ => none
def itN (hs : Hs) (d k : D) : Option D := match d with
  | .loc n => (match keyN k, hs[n]? with
    | some κ, some (.dcn kvs) => findN kvs κ
    | _, _ => none)
  | _ => none
def setN (hs : Hs) (d k v : D) : Option Hs := match d with
  | .loc n => (match keyN k, hs[n]? with
    | some κ, some (.dcn kvs) => if kvs.length < sizeLine then some (hs.set n (.dcn (putN kvs κ k v))) else none
    | some _, some (.dct []) => some (hs.set n (.dcn [(k, v)]))
    | _, _ => none)
  | _ => none
section
variable {X : Cx} {pins : List (Addr × Obj)} {σ : L2.St} {H : Hp} {s : Shared} {m : List Addr} {hs : Hs} {k d : D} {x y : V} {v u : Value}
theorem back {a : Addr} {o : HO} (e : H a = some (.dK [])) : upd (upd H a o) a (.dK []) = H := by
  rw [upd_upd]
  funext b
  by_cases h : b = a
  · subst h; rw [upd_same, e]
  · rw [upd_ne h]
theorem dk_plain {ks : List (Key × V)} : (∀ xs, HO.dK ks ≠ .tup xs) ∧ (∀ v w, HO.dK ks ≠ .frz v w) ∧ ∀ fs, HO.dK ks ≠ .xd fs := ⟨(fun _ h => nomatch h), (fun _ _ h => nomatch h), (fun _ h => nomatch h)⟩
theorem good_mono {K : PySem.W.Frag} {H' : Hp} {κ : NestedKey} {b : Addr} (mo : ∀ a xs, SqT K H a xs → SqT K H' a xs) (g : GoodK K H κ b) : GoodK K H' κ b := ⟨NKv.mono mo _ _ g.1, g.2⟩
theorem HR.dct0 {K : PySem.W.Frag} {mg : Str → Option Value} (hr : HR K mg m hs H) {n : Nat} {a : Addr} (hm : m[n]? = some a) (e : hs[n]? = some (.dct [])) : H a = some (.dK []) := by
  obtain ⟨ks, h1, h2⟩ := hr.ob _ _ _ e hm
  simp only [RKs] at h2
  subst h2
  exact h1
theorem run_in {Q : Value → Shared → Prop} {c : Bool} (hu : X.A.units + 65 < cLine) (I : Inv X pins σ H s) (hr : HR X.K X.mg m hs H) (ra : RV X.K X.mg m H k x) (rb : RV X.K X.mg m H d y) (rx : RelV x v) (ry : RelV y u) (hf : inN hs k d = some c) (q : ∀ s', Inv X pins σ H s' → Q (.bool c) s') :
    wpAny (model X.prog X.w) X.A (compareOp .In v u) Q X.xe s := by
  unfold inN at hf
  split at hf
  · rename_i n
    obtain ⟨p, rfl, hm⟩ := rv_loc rb
    cases ry
    split at hf
    · rename_i κ kvs hk e
      cases hf
      obtain ⟨b, rfl, g⟩ := keyN_good hk ra
      cases rx
      obtain ⟨xs, dn, rn⟩ := hr.dcn_at hm e
      have e2 : (atKey xs κ).isSome = (findN kvs κ).isSome := by
        rcases rn.find (κ := κ) with ⟨e1, e2⟩ | ⟨_, _, _, e1, e2, _, _⟩ <;> rw [e1, e2] <;> rfl
      exact dn_in (by omega) I dn g fun s' I' => by rw [e2]; exact q s' I'
    · rename_i κ hk e
      cases hf
      obtain ⟨b, rfl, g⟩ := keyN_good hk ra
      cases rx
      have h1 := hr.dct0 hm e
      obtain ⟨I1, hd⟩ := dn_turn I h1
      have mo := (Ext.write (K := X.K) (u := dnO p []) hm h1 dk_plain).tup
      have dn : DN X.K (upd H p (dnO p [])) p [] := ⟨upd_same, hd, Nat.zero_le _, fun x hx => nomatch hx⟩
      refine dn_in (by omega) I1 dn (good_mono mo g) fun s' I' => q s' ?_
      have := dk_turn I' dn
      rwa [back h1] at this
    · cases hf
  · cases hf
theorem run_notIn {Q : Value → Shared → Prop} {c : Bool} (hu : X.A.units + 65 < cLine) (I : Inv X pins σ H s) (hr : HR X.K X.mg m hs H) (ra : RV X.K X.mg m H k x) (rb : RV X.K X.mg m H d y) (rx : RelV x v) (ry : RelV y u) (hf : inN hs k d = some c) (q : ∀ s', Inv X pins σ H s' → Q (.bool (!c)) s') :
    wpAny (model X.prog X.w) X.A (compareOp .NotIn v u) Q X.xe s := by
  unfold inN at hf
  split at hf
  · rename_i n
    obtain ⟨p, rfl, hm⟩ := rv_loc rb
    cases ry
    split at hf
    · rename_i κ kvs hk e
      cases hf
      obtain ⟨b, rfl, g⟩ := keyN_good hk ra
      cases rx
      obtain ⟨xs, dn, rn⟩ := hr.dcn_at hm e
      have e2 : (atKey xs κ).isSome = (findN kvs κ).isSome := by
        rcases rn.find (κ := κ) with ⟨e1, e2⟩ | ⟨_, _, _, e1, e2, _, _⟩ <;> rw [e1, e2] <;> rfl
      exact dn_notIn (by omega) I dn g fun s' I' => by rw [e2]; exact q s' I'
    · rename_i κ hk e
      cases hf
      obtain ⟨b, rfl, g⟩ := keyN_good hk ra
      cases rx
      have h1 := hr.dct0 hm e
      obtain ⟨I1, hd⟩ := dn_turn I h1
      have mo := (Ext.write (K := X.K) (u := dnO p []) hm h1 dk_plain).tup
      have dn : DN X.K (upd H p (dnO p [])) p [] := ⟨upd_same, hd, Nat.zero_le _, fun x hx => nomatch hx⟩
      refine dn_notIn (by omega) I1 dn (good_mono mo g) fun s' I' => q s' ?_
      have := dk_turn I' dn
      rwa [back h1] at this
    · cases hf
  · cases hf
theorem run_item {value slice : Expr} {Q : VK} {r : D} (hu : X.A.units + 65 < cLine) (I : Inv X pins σ H s) (hr : HR X.K X.mg m hs H) (ra : RV X.K X.mg m H d x) (rb : RV X.K X.mg m H k y) (rx : RelV x v) (ry : RelV y u) (hf : itN hs d k = some r)
    (q : ∀ z, RV X.K X.mg m H r z → Q z H) (hsl : subscripted slice false v u = operate [v, u] (getItem v u)) : wpAny (model X.prog X.w) X.A (subscriptTail value slice v u) (EP X pins σ Q) X.xe s := by
  unfold itN at hf
  split at hf
  · rename_i n
    obtain ⟨p, rfl, hm⟩ := rv_loc ra
    cases rx
    split at hf
    · rename_i κ kvs hk e
      obtain ⟨b, rfl, g⟩ := keyN_good hk rb
      cases ry
      obtain ⟨xs, dn, rn⟩ := hr.dcn_at hm e
      rcases rn.find (κ := κ) with ⟨e1, e2⟩ | ⟨d0, w, z, e1, e2, rd, ru⟩
      · rw [e1] at hf; cases hf
      · rw [e1] at hf
        cases hf
        exact tail_any (dn_of I dn).typeIs PySem.F.slot_dict_getitem.lookup (dn_getItem (by omega) I dn g e2 fun s' I' => ⟨z, H, I', ru, q z rd⟩) hsl
    · cases hf
  · cases hf
theorem run_set {Q : Hp → Prop} {w : V} {r : Value} {c : D} {hs' : Hs} (hu : X.A.units + 65 < cLine) (I : Inv X pins σ H s) (hr : HR X.K X.mg m hs H) (ra : RV X.K X.mg m H d x) (rb : RV X.K X.mg m H k y) (rc : RV X.K X.mg m H c w) (rx : RelV x v) (ry : RelV y u) (rw_ : RelV w r) (hf : setN hs d k c = some hs')
    (q : ∀ m' H', Ext X.K m H m' H' → HR X.K X.mg m' hs' H' → Q H') : wpAny (model X.prog X.w) X.A (setItem v u r) (fun _ s' => ∃ H', Inv X pins σ H' s' ∧ Q H') X.xe s := by
  unfold setN at hf
  split at hf
  · rename_i n
    obtain ⟨p, rfl, hm⟩ := rv_loc ra
    cases rx
    split at hf
    · rename_i κ kvs hk e
      split at hf
      · rename_i hz
        cases hf
        obtain ⟨b, rfl, g⟩ := keyN_good hk rb
        obtain ⟨_, k1, k8⟩ := keyN_some hk
        cases ry
        obtain ⟨xs, dn, rn⟩ := hr.dcn_at hm e
        refine dn_setItem (u := r) (by omega) I dn g fun s' I' => ⟨_, I', ?_⟩
        have x := Ext.write (K := X.K) (u := dnO p (storedH xs κ b r)) hm dn.1 dnO_plain
        refine q m _ x (hr.write hm dn.1 dnO_plain ⟨_, upd_same, dn.2.1, ?_, (rn.put k1 k8 rb rc rw_).monoW x.wk⟩)
        have l := rn.len
        have : (storedH xs κ b r).length ≤ xs.length + 1 := by
          unfold storedH
          split <;> simp
        omega
      · cases hf
    · rename_i κ hk e
      cases hf
      obtain ⟨b, rfl, g⟩ := keyN_good hk rb
      obtain ⟨_, k1, k8⟩ := keyN_some hk
      cases ry
      have h1 := hr.dct0 hm e
      obtain ⟨I1, hd⟩ := dn_turn I h1
      have mo := (Ext.write (K := X.K) (u := dnO p []) hm h1 dk_plain).tup
      have dn : DN X.K (upd H p (dnO p [])) p [] := ⟨upd_same, hd, Nat.zero_le _, fun x hx => nomatch hx⟩
      refine dn_setItem (u := r) (by omega) I1 dn (good_mono mo g) fun s' I' => ⟨_, I', ?_⟩
      rw [upd_upd]
      have x := Ext.write (K := X.K) (u := dnO p (storedH [] κ b r)) hm h1 dk_plain
      refine q m _ x (hr.write hm h1 dk_plain ⟨_, upd_same, hd, ?_, ((RNs.nil_iff (xs := [])).mpr rfl |>.put (kvs := []) k1 k8 rb rc rw_).monoW x.wk⟩)
      unfold storedH
      rw [sizeLine_eq]
      simp [atKey]
    · cases hf
  · cases hf
end
end DL
set_option Elab.async false
set_option linter.all false
set_option maxRecDepth 100000
set_option maxHeartbeats 4000000
namespace DL
open PySem PySem.Spec PyProof.Rows L2

/-! ## comparisons -/
def pdNone : PyData → Bool
  | .none => true
  | _ => false
def ordD (f : PyData → PyData → Bool) (a b : D) : P D := fun hs => match a.data hs, b.data hs with
  | some p, some q => if (PySem.W.alike p q && !pdNone p && SeqAt.shaped p) = true then some (.bl (f p q), hs) else none
  | _, _ => none
def inD (hs : Hs) (a b : D) : Option Bool := match a, b with
  | .str x, .str y => some (!(Builtin.Str.occurrences y x 0 y.length 1).isEmpty)
  | a, b => match a.data hs, b.data hs with
    | some p, some (.list ys) => if (SeqAt.shaped p && SeqAt.shaped (.list ys)) = true then some (ys.any fun z => PyData.eqv z p) else none
    | some p, some (.tuple ys) => if (SeqAt.shaped p && SeqAt.shaped (.tuple ys)) = true then some (ys.any fun z => PyData.eqv z p) else none
    | _, _ => none
def isN : D → Bool
  | .non => true
  | _ => false
def answers (o : Option Bool) : P D := fun hs => match o with
  | some c => some (.bl c, hs)
  | none => none
def ltD (a b : D) : P D := match a, b with
  | .int i, .int j => P.pure (.bl (decide (i < j)))
  | a, b => ordD (fun p q => PySem.W.dataLt p q) a b
def leD (a b : D) : P D := match a, b with
  | .int i, .int j => P.pure (.bl (decide (i ≤ j)))
  | a, b => ordD (fun p q => !PySem.W.dataLt q p) a b
def gtD (a b : D) : P D := match a, b with
  | .int i, .int j => P.pure (.bl (decide (j < i)))
  | a, b => ordD (fun p q => PySem.W.dataLt q p) a b
def geD (a b : D) : P D := match a, b with
  | .int i, .int j => P.pure (.bl (decide (j ≤ i)))
  | a, b => ordD (fun p q => !PySem.W.dataLt p q) a b
def isD (a b : D) : P D := match a, b with
  | a, .non => P.pure (.bl (isN a))
  | .bl x, .bl y => P.pure (.bl (decide (x = y)))
  | _, _ => P.stuck
def isNotD (a b : D) : P D := match a, b with
  | a, .non => P.pure (.bl (!isN a))
  | .bl x, .bl y => P.pure (.bl (!decide (x = y)))
  | _, _ => P.stuck
/-- anything against the empty tuple -/
def eqNil (hs : Hs) : D → D → Option Bool
  | .tup xs, .tup [] => some xs.isEmpty
  | .frl _, .tup [] => some false
  | .non, .tup [] => some false
  | .bl _, .tup [] => some false
  | .int _, .tup [] => some false
  | .str _, .tup [] => some false
  | .loc n, .tup [] => match hs[n]? with
    | some (.lst _) => some false
    | some (.dct _) => some false
    | _ => none
  | _, _ => none
def eqX (hs : Hs) (a b : D) : Option Bool := match eqD hs a b with
  | some c => some c
  | none => eqNil hs a b
def inX (hs : Hs) (a b : D) : Option Bool := match inD hs a b with
  | some c => some c
  | none => inN hs a b
def cmpD (op : CmpOp) (a b : D) : P D := match op with
  | .Eq => fun hs => answers (eqX hs a b) hs
  | .NotEq => fun hs => answers ((eqD hs a b).map (!·)) hs
  | .Lt => ltD a b
  | .LtE => leD a b
  | .Gt => gtD a b
  | .GtE => geD a b
  | .Is => isD a b
  | .IsNot => isNotD a b
  | .In => fun hs => answers (inX hs a b) hs
  | .NotIn => fun hs => answers ((inX hs a b).map (!·)) hs
section
variable {X : Cx}
theorem answers_some {o : Option Bool} {hs hs' : Hs} {d : D} (h : answers o hs = some (d, hs')) : ∃ c, o = some c ∧ d = .bl c ∧ hs' = hs := by
  unfold answers at h
  cases o with
  | none => cases h
  | some c => cases h; exact ⟨c, rfl, rfl, rfl⟩
theorem eqDd_some {hs : Hs} {a b : D} {c : Bool} (h : eqDd hs a b = some c) : ∃ p q, a.data hs = some p ∧ b.data hs = some q ∧ SeqAt.shaped p = true ∧ SeqAt.shaped q = true ∧ c = PyData.eqv p q := by
  unfold eqDd at h
  split at h
  · rename_i p q e1 e2
    split at h
    · rename_i hc
      cases h
      simp only [Bool.and_eq_true] at hc
      exact ⟨p, q, e1, e2, hc.1, hc.2, rfl⟩
    · cases h
  · cases h
theorem eqD_some {hs : Hs} {a b : D} {c : Bool} (h : eqD hs a b = some c) : (∃ x y, a = .str x ∧ b = .str y ∧ c = decide (x = y)) ∨ ∃ p q, a.data hs = some p ∧ b.data hs = some q ∧ SeqAt.shaped p = true ∧ SeqAt.shaped q = true ∧ c = PyData.eqv p q := by
  unfold eqD at h
  split at h
  · cases h
    exact .inl ⟨_, _, rfl, rfl, rfl⟩
  · exact .inr (eqDd_some h)
theorem eqNil_ok {K : PySem.W.Frag} {mg : Str → Option Value} {m : List Addr} {H : Hp} {hs : Hs} {a b : D} {c : Bool} {x y : V} (hr : HR K mg m hs H) (ra : RV K mg m H a x) (rb : RV K mg m H b y) (h : eqNil hs a b = some c) :
    ∃ t, y = .ref t ∧ SqT K H t [] ∧ EqNil K H x c := by
  have nil : b = .tup [] → ∃ t, y = .ref t ∧ SqT K H t [] := fun e => by
    subst e
    obtain ⟨t, vs, rfl, h1, h2⟩ := rv_tup rb
    rw [RVs.nil_iff] at h2
    subst h2
    exact ⟨t, rfl, h1⟩
  unfold eqNil at h
  split at h
  · cases h
    obtain ⟨t, e, hT⟩ := nil rfl
    obtain ⟨p, us, rfl, h1, q1⟩ := rv_tup ra
    refine ⟨t, e, hT, .inr (.inl ⟨us, h1, ?_⟩)⟩
    have := q1.length
    rename_i xs
    cases xs <;> cases us <;> simp at this ⊢
  · cases h
    obtain ⟨t, e, hT⟩ := nil rfl
    obtain ⟨p, us, rfl, h1, q1⟩ := rv_frl ra
    exact ⟨t, e, hT, .inl ⟨us, h1.sql, rfl⟩⟩
  · cases h
    obtain ⟨t, e, hT⟩ := nil rfl
    obtain rfl := rv_non ra
    exact ⟨t, e, hT, rfl⟩
  · cases h
    obtain ⟨t, e, hT⟩ := nil rfl
    obtain rfl := rv_bl ra
    exact ⟨t, e, hT, rfl⟩
  · cases h
    obtain ⟨t, e, hT⟩ := nil rfl
    obtain rfl := rv_int ra
    exact ⟨t, e, hT, rfl⟩
  · cases h
    obtain ⟨t, e, hT⟩ := nil rfl
    obtain rfl := rv_str ra
    exact ⟨t, e, hT, rfl⟩
  · obtain ⟨t, e, hT⟩ := nil rfl
    obtain ⟨p, rfl, hm⟩ := rv_loc ra
    obtain ⟨o, ho, ro⟩ := hr.at' hm
    rw [ho] at h
    cases o with
    | lst xs => cases h; obtain ⟨vs, h1, h2⟩ := ro; exact ⟨t, e, hT, .inl ⟨vs, SqL.of h1, rfl⟩⟩
    | dct kvs => cases h; obtain ⟨ks, h1, h2⟩ := ro; exact ⟨t, e, hT, .inr (.inr ⟨ks, .inl h1, rfl⟩)⟩
    | dcn _ => cases h
    | ins _ _ => cases h
    | set _ => cases h
  · cases h
theorem eq_ok (hu : X.A.units + 64 < cLine) : OpR X (compareOp .Eq) (rP2 X.K X.mg (cmpD .Eq)) := by
  intro pins s σ H x y v u Q I rx ry h
  obtain ⟨m, hs, a, b, d, hs', hr, ra, rb, hf, k⟩ := h
  obtain ⟨c, h1, rfl, rfl⟩ := answers_some hf
  cases h0 : eqD hs' a b with
  | none =>
    unfold eqX at h1
    rw [h0] at h1
    obtain ⟨t, rfl, hT, hE⟩ := eqNil_ok hr ra rb h1
    exact op_eqNil hu pins s σ H x _ v u Q I rx ry ⟨t, c, rfl, hT, hE, k.here hr mk_bl⟩
  | some c' =>
  unfold eqX at h1
  rw [h0] at h1
  cases h1
  rcases eqD_some h0 with ⟨z, w, rfl, rfl, rfl⟩ | ⟨p, q, e1, e2, s1, s2, rfl⟩
  · rw [rv_str ra] at rx
    rw [rv_str rb] at ry
    have e : decide (V.str z = V.str w) = decide (z = w) := by simp
    exact op_eq pins s σ H _ _ v u Q I rx ry ⟨rfl, by rw [e]; exact k.here hr mk_bl⟩
  · exact op_eqD hu pins s σ H _ _ v u Q I rx ry ⟨p, q, data_ok hr e1 ra, data_ok hr e2 rb, s1, s2, k.here hr mk_bl⟩
theorem ne_ok (hu : X.A.units + 64 < cLine) : OpR X (compareOp .NotEq) (rP2 X.K X.mg (cmpD .NotEq)) := by
  intro pins s σ H x y v u Q I rx ry h
  obtain ⟨m, hs, a, b, d, hs', hr, ra, rb, hf, k⟩ := h
  obtain ⟨c, h1, rfl, rfl⟩ := answers_some hf
  obtain ⟨c', h2, rfl⟩ := Option.map_eq_some_iff.mp h1
  rcases eqD_some h2 with ⟨z, w, rfl, rfl, rfl⟩ | ⟨p, q, e1, e2, s1, s2, rfl⟩
  · rw [rv_str ra] at rx
    rw [rv_str rb] at ry
    have e : decide (V.str z = V.str w) = decide (z = w) := by simp
    exact op_ne pins s σ H _ _ v u Q I rx ry ⟨rfl, by rw [e]; exact k.here hr mk_bl⟩
  · exact op_neD hu pins s σ H _ _ v u Q I rx ry ⟨p, q, data_ok hr e1 ra, data_ok hr e2 rb, s1, s2, k.here hr mk_bl⟩
theorem ord_ok {op : CmpOp} {f : PyData → PyData → Bool} (hu : X.A.units + 64 < cLine)
    (rule : ∀ {s : Shared} {a b : Value} {da db : PyData} {as bs : List Addr} {Q : Value → Shared → Prop}, Reads s.heap a da as → Reads s.heap b db bs → PySem.W.alike da db = true → da ≠ .none → X.A.units + min da.depth db.depth < cLine → Q (.bool (f da db)) s →
      wpAny (model X.prog X.w) X.A (compareOp op a b) Q X.xe s) : OpR X (compareOp op) (rP2 X.K X.mg (ordD f)) := by
  intro pins s σ H x y v u Q I rx ry h
  obtain ⟨m, hs, a, b, d, hs', hr, ra, rb, hf, k⟩ := h
  unfold ordD at hf
  split at hf
  · rename_i p q e1 e2
    split at hf
    · rename_i hc
      cases hf
      simp only [Bool.and_eq_true] at hc
      obtain ⟨as, r1⟩ := Dp.reads I p x v (data_ok hr e1 ra) rx
      obtain ⟨bs, r2⟩ := Dp.reads I q y u (data_ok hr e2 rb) ry
      have hn : p ≠ .none := fun e => by rw [e] at hc; simp [pdNone] at hc
      have hd := SeqAt.depth_of_shaped hc.2
      have hmin : min p.depth q.depth ≤ p.depth := Nat.min_le_left _ _
      exact rule r1 r2 hc.1.1 hn (by omega) ⟨.bl _, H, I, rfl, k.here hr mk_bl⟩
    · cases hf
  · cases hf
/-- a comparison in two roads: ints, data -/
theorem ints_or {op : CmpOp} {g : Int → Int → Bool} {f : D → D → P D} {h : D → D → P D} (hi : OpR X (compareOp op) (rI0 fun i j => .bl (g i j))) (hd : OpR X (compareOp op) (rP2 X.K X.mg f))
    (hh : ∀ a b, (∃ i j, a = .int i ∧ b = .int j ∧ h a b = P.pure (.bl (g i j))) ∨ h a b = f a b) : OpR X (compareOp op) (rP2 X.K X.mg h) := by
  intro pins s σ H x y v u Q I rx ry q
  obtain ⟨m, hs, a, b, d, hs', hr, ra, rb, hf, k⟩ := q
  rcases hh a b with ⟨i, j, rfl, rfl, e⟩ | e
  · rw [e] at hf
    cases hf
    obtain rfl := rv_int ra
    obtain rfl := rv_int rb
    exact hi pins s σ H _ _ v u Q I rx ry ⟨_, _, rfl, rfl, k.here hr mk_bl⟩
  · rw [e] at hf
    exact hd pins s σ H x y v u Q I rx ry ⟨m, hs, a, b, d, hs', hr, ra, rb, hf, k⟩
theorem in_some {hs : Hs} {a b : D} {c : Bool} (h : inD hs a b = some c) : (∃ x y, a = .str x ∧ b = .str y ∧ c = !(Builtin.Str.occurrences y x 0 y.length 1).isEmpty) ∨
    ∃ p ys, a.data hs = some p ∧ SeqAt.shaped p = true ∧ c = (ys.any fun z => PyData.eqv z p) ∧ ((b.data hs = some (.list ys) ∧ SeqAt.shaped (.list ys) = true) ∨ (b.data hs = some (.tuple ys) ∧ SeqAt.shaped (.tuple ys) = true)) := by
  unfold inD at h
  split at h
  · cases h; exact .inl ⟨_, _, rfl, rfl, rfl⟩
  · right
    split at h
    · rename_i p ys e1 e2
      split at h
      · rename_i hc
        cases h
        simp only [Bool.and_eq_true] at hc
        exact ⟨p, ys, e1, hc.1, rfl, .inl ⟨e2, hc.2⟩⟩
      · cases h
    · rename_i p ys e1 e2
      split at h
      · rename_i hc
        cases h
        simp only [Bool.and_eq_true] at hc
        exact ⟨p, ys, e1, hc.1, rfl, .inr ⟨e2, hc.2⟩⟩
      · cases h
    · cases h
theorem in_ok (hu : X.A.units + 65 < cLine) : OpR X (compareOp .In) (rP2 X.K X.mg (cmpD .In)) := by
  intro pins s σ H x y v u Q I rx ry h
  obtain ⟨m, hs, a, b, d, hs', hr, ra, rb, hf, k⟩ := h
  obtain ⟨c, h1, rfl, rfl⟩ := answers_some hf
  unfold inX at h1
  cases h0 : inD hs' a b with
  | none =>
    rw [h0] at h1
    exact run_in hu I hr ra rb rx ry h1 fun s' I' => ⟨.bl _, H, I', rfl, k.here hr mk_bl⟩
  | some c0 =>
  rw [h0] at h1
  cases h1
  rcases in_some h0 with ⟨z, w, rfl, rfl, rfl⟩ | ⟨p, ys, e1, s1, rfl, ⟨e2, s2⟩ | ⟨e2, s2⟩⟩
  · obtain rfl := rv_str ra
    obtain rfl := rv_str rb
    exact op_in_str pins s σ H _ _ v u Q I rx ry ⟨_, _, rfl, rfl, k.here hr mk_bl⟩
  · exact op_inD hu pins s σ H _ _ v u Q I rx ry ⟨p, ys, data_ok hr e1 ra, data_ok hr e2 rb, s1, s2, k.here hr mk_bl⟩
  · obtain ⟨as, r1⟩ := Dp.reads I p x v (data_ok hr e1 ra) rx
    obtain ⟨bs, r2⟩ := Dp.reads I _ y u (data_ok hr e2 rb) ry
    exact SeqAt.in_tuple_reads r2 r1 (SeqAt.canLay_of_shaped s2) (SeqAt.canLay_of_shaped s1) (room_in_shaped s1 hu) ⟨.bl _, H, I, rfl, k.here hr mk_bl⟩
theorem notIn_ok (hu : X.A.units + 65 < cLine) : OpR X (compareOp .NotIn) (rP2 X.K X.mg (cmpD .NotIn)) := by
  intro pins s σ H x y v u Q I rx ry h
  obtain ⟨m, hs, a, b, d, hs', hr, ra, rb, hf, k⟩ := h
  obtain ⟨c, h1, rfl, rfl⟩ := answers_some hf
  obtain ⟨c', h2, rfl⟩ := Option.map_eq_some_iff.mp h1
  unfold inX at h2
  cases h0 : inD hs' a b with
  | none =>
    rw [h0] at h2
    exact run_notIn hu I hr ra rb rx ry h2 fun s' I' => ⟨.bl _, H, I', rfl, k.here hr mk_bl⟩
  | some c0 =>
  rw [h0] at h2
  cases h2
  rcases in_some h0 with ⟨z, w, rfl, rfl, rfl⟩ | ⟨p, ys, e1, s1, rfl, ⟨e2, s2⟩ | ⟨e2, s2⟩⟩
  · obtain rfl := rv_str ra
    obtain rfl := rv_str rb
    exact op_notin_str pins s σ H _ _ v u Q I rx ry ⟨_, _, rfl, rfl, k.here hr mk_bl⟩
  · exact op_notInD hu pins s σ H _ _ v u Q I rx ry ⟨p, ys, data_ok hr e1 ra, data_ok hr e2 rb, s1, s2, k.here hr mk_bl⟩
  · obtain ⟨as, r1⟩ := Dp.reads I p x v (data_ok hr e1 ra) rx
    obtain ⟨bs, r2⟩ := Dp.reads I _ y u (data_ok hr e2 rb) ry
    exact SeqAt.notIn_tuple_reads r2 r1 (SeqAt.canLay_of_shaped s2) (SeqAt.canLay_of_shaped s1) (room_in_shaped s1 hu) ⟨.bl _, H, I, rfl, k.here hr mk_bl⟩
theorem isN_of {K : PySem.W.Frag} {mg : Str → Option Value} {m : List Addr} {H : Hp} {a : D} {x : V} (r : RV K mg m H a x) : decide (x = V.non) = isN a := by
  cases a <;> simp only [RV] at r <;> first | (subst r; simp [isN]) | (obtain ⟨rfl, _⟩ := r; simp [isN]) | (obtain ⟨_, rfl, _⟩ := r; simp [isN]) | (obtain ⟨_, _, rfl, _⟩ := r; simp [isN])
theorem cmpD_ok (hu : X.A.units + 65 < cLine) (op : CmpOp) : OpR X (compareOp op) (rP2 X.K X.mg (cmpD op)) := by
  have hu' : X.A.units + 64 < cLine := by omega
  cases op with
  | Eq => exact eq_ok hu'
  | NotEq => exact ne_ok hu'
  | Lt =>
    show OpR X _ (rP2 X.K X.mg ltD)
    refine ints_or op_lt (ord_ok hu' fun r1 r2 h hn hd q => PySem.W.lt_data r1 r2 h hn hd q) fun a b => ?_
    unfold ltD
    split
    · exact .inl ⟨_, _, rfl, rfl, rfl⟩
    · exact .inr rfl
  | LtE =>
    show OpR X _ (rP2 X.K X.mg leD)
    refine ints_or op_le (ord_ok hu' fun r1 r2 h hn hd q => PySem.W.le_data r1 r2 h hn hd q) fun a b => ?_
    unfold leD
    split
    · exact .inl ⟨_, _, rfl, rfl, rfl⟩
    · exact .inr rfl
  | Gt =>
    show OpR X _ (rP2 X.K X.mg gtD)
    refine ints_or op_gt (ord_ok hu' fun r1 r2 h hn hd q => PySem.W.gt_data r1 r2 h hn hd q) fun a b => ?_
    unfold gtD
    split
    · exact .inl ⟨_, _, rfl, rfl, rfl⟩
    · exact .inr rfl
  | GtE =>
    show OpR X _ (rP2 X.K X.mg geD)
    refine ints_or op_ge (ord_ok hu' fun r1 r2 h hn hd q => PySem.W.ge_data r1 r2 h hn hd q) fun a b => ?_
    unfold geD
    split
    · exact .inl ⟨_, _, rfl, rfl, rfl⟩
    · exact .inr rfl
  | Is =>
    intro pins s σ H x y v u Q I rx ry h
    obtain ⟨m, hs, a, b, d, hs', hr, ra, rb, hf, k⟩ := h
    simp only [cmpD, isD] at hf
    split at hf
    · cases hf
      obtain rfl := rv_non rb
      exact op_isN pins s σ H _ _ v u Q I rx ry ⟨rfl, by rw [isN_of ra]; exact k.here hr mk_bl⟩
    · cases hf
      obtain rfl := rv_bl ra
      obtain rfl := rv_bl rb
      exact op_isBl pins s σ H _ _ v u Q I rx ry ⟨_, _, rfl, rfl, k.here hr mk_bl⟩
    · exact (stuck_no hf).elim
  | IsNot =>
    intro pins s σ H x y v u Q I rx ry h
    obtain ⟨m, hs, a, b, d, hs', hr, ra, rb, hf, k⟩ := h
    simp only [cmpD, isNotD] at hf
    split at hf
    · cases hf
      obtain rfl := rv_non rb
      exact op_notN pins s σ H _ _ v u Q I rx ry ⟨rfl, by rw [isN_of ra]; exact k.here hr mk_bl⟩
    · cases hf
      obtain rfl := rv_bl ra
      obtain rfl := rv_bl rb
      exact op_notBl pins s σ H _ _ v u Q I rx ry ⟨_, _, rfl, rfl, k.here hr mk_bl⟩
    · exact (stuck_no hf).elim
  | In => exact in_ok hu
  | NotIn => exact notIn_ok hu
end

/-! ## truth -/
def truD (hs : Hs) : D → Option Bool
  | .non => some false
  | .bl b => some b
  | .int i => some (i != 0)
  | .str x => if x.length ≤ sizeLine then some ((x.length : Int) != 0) else none
  | .tup xs => some (!xs.isEmpty)
  | .frl xs => some (!xs.isEmpty)
  | .loc n => match hs[n]? with
    | some (.lst xs) => some (!xs.isEmpty)
    | _ => none
  | _ => none
theorem RVs.empty {K : PySem.W.Frag} {mg : Str → Option Value} {m : List Addr} {H : Hp} {xs : List D} {vs : List V} (h : RVs K mg m H xs vs) : xs.isEmpty = vs.isEmpty := by
  cases xs with
  | nil => rw [RVs.nil_iff] at h; subst h; rfl
  | cons x xs => obtain ⟨v, r, rfl, _⟩ := RVs.cons_iff.mp h; rfl
theorem truD_ok {K : PySem.W.Frag} {mg : Str → Option Value} {m : List Addr} {H : Hp} {hs : Hs} {d : D} {v : V} {c : Bool} (hr : HR K mg m hs H) (r : RV K mg m H d v) (h : truD hs d = some c) : TruV K v H c := by
  cases d with
  | non => cases h; obtain rfl := rv_non r; exact rfl
  | bl b => cases h; obtain rfl := rv_bl r; exact rfl
  | int i => cases h; obtain rfl := rv_int r; exact rfl
  | str x =>
    simp only [truD] at h
    split at h
    · cases h; obtain rfl := rv_str r; exact ⟨by assumption, rfl⟩
    · cases h
  | tup xs =>
    cases h
    obtain ⟨a, vs, rfl, h1, h2⟩ := rv_tup r
    exact .inr (.inl ⟨vs, h1, by rw [h2.empty]⟩)
  | frl xs =>
    cases h
    obtain ⟨a, vs, rfl, h1, h2⟩ := rv_frl r
    exact .inl ⟨vs, h1.sql, by rw [h2.empty]⟩
  | loc n =>
    obtain ⟨a, rfl, hm⟩ := rv_loc r
    simp only [truD] at h
    split at h
    · rename_i xs e
      cases h
      obtain ⟨vs, h1, h2⟩ := hr.lst_at hm e
      exact .inl ⟨vs, SqL.of h1, by rw [h2.empty]⟩
    · cases h
  | glo _ => cases h
  | exv => cases h
  | ty _ => cases h
end DL
set_option Elab.async false
set_option linter.all false
set_option maxRecDepth 100000
set_option maxHeartbeats 4000000
namespace DL
open PySem PySem.Spec PyProof.Rows L2

/-! ## items, slices -/
def ixD (a b : D) : P D := fun hs => match a, b with
  | .tup xs, .int i => (atI xs i).map fun d => (d, hs)
  | .str x, .int i => if x.length ≤ sizeLine then (atI x.cps.toList i).map fun c => (.str ⟨#[c]⟩, hs) else none
  | a, .int i => match listOf hs a with
    | some xs => (atI xs i).map fun d => (d, hs)
    | none => none
  | a, b => match itN hs a b with
    | some r => some (r, hs)
    | none => none
theorem atI_rv {K : PySem.W.Frag} {mg : Str → Option Value} {m : List Addr} {H : Hp} {xs : List D} {vs : List V} (h : RVs K mg m H xs vs) {i : Int} {d : D} (e : atI xs i = some d) : ∃ v, atI vs i = some v ∧ RV K mg m H d v := by
  unfold atI at e ⊢
  rw [← h.length]
  cases q : ixN xs.length i with
  | none => rw [q] at e; cases e
  | some j => rw [q] at e; exact h.get e
theorem ixD_ok {X : Cx} (hu : X.A.units + 65 < cLine) : IxR X (rP2 X.K X.mg ixD) := by
  intro value slice pins s σ H x y v u Q I rx ry h hs
  obtain ⟨m, hh, a, b, d, hs', hr, ra, rb, hf, k⟩ := h
  unfold ixD at hf
  split at hf
  · obtain ⟨z, e, hz⟩ := Option.map_eq_some_iff.mp hf
    cases hz
    obtain ⟨p, us, rfl, h1, q1⟩ := rv_tup ra
    obtain rfl := rv_int rb
    obtain ⟨w, e2, q2⟩ := atI_rv q1 e
    exact ix_tup value slice pins s σ H _ _ v u Q I rx ry ⟨p, us, _, w, rfl, rfl, h1, e2, k.here hr q2⟩ hs
  · split at hf
    · obtain ⟨z, e, hz⟩ := Option.map_eq_some_iff.mp hf
      cases hz
      obtain rfl := rv_str ra
      obtain rfl := rv_int rb
      exact ix_str value slice pins s σ H _ _ v u Q I rx ry ⟨_, _, z, rfl, rfl, by assumption, e, k.here hr mk_str⟩ hs
    · cases hf
  · split at hf
    · rename_i xs el
      obtain ⟨z, e, hz⟩ := Option.map_eq_some_iff.mp hf
      cases hz
      obtain ⟨p, us, rfl, h1, q1⟩ := list_of hr ra el
      obtain rfl := rv_int rb
      obtain ⟨w, e2, q2⟩ := atI_rv q1 e
      exact ix_list value slice pins s σ H _ _ v u Q I rx ry ⟨p, us, _, w, rfl, rfl, h1, e2, k.here hr q2⟩ hs
    · cases hf
  · split at hf
    · rename_i r e
      cases hf
      exact run_item hu I hr ra rb rx ry e (fun z rz => k.here hr rz) hs
    · cases hf

def cutD (xs : List D) (lo hi : Option Int) : List D := (xs.drop (HT.sIx xs.length 0 lo)).take (HT.sIx xs.length xs.length hi - HT.sIx xs.length 0 lo)
theorem cut_rv {K : PySem.W.Frag} {mg : Str → Option Value} {m : List Addr} {H : Hp} {xs : List D} {vs : List V} (h : RVs K mg m H xs vs) (lo hi : Option Int) : RVs K mg m H (cutD xs lo hi) (cutV vs lo hi) := by
  unfold cutD cutV
  rw [← h.length]
  exact (h.drop _).take _
def sliceD (a : D) (lo hi : Option Int) : P D := fun hs => match a with
  | .tup xs => some (.tup (cutD xs lo hi), hs)
  | .str x => if x.length ≤ sizeLine then some (.str (cutS x lo hi), hs) else none
  | a => match listOf hs a with
    | some xs => newL (cutD xs lo hi) hs
    | none => none
def rSl (K : PySem.W.Frag) (mg : Str → Option Value) : V → Option Int → Option Int → Hp → VK → Prop := fun x lo hi H Q => ∃ m hs a d hs', HR K mg m hs H ∧ RV K mg m H a x ∧ sliceD a lo hi hs = some (d, hs') ∧ Bk K mg m H d hs' Q
theorem sliceD_ok {X : Cx} : SlR X (rSl X.K X.mg) := by
  intro pins s σ H x v vl vu lo hi sl Q I rx hs pl pu h
  obtain ⟨m, hh, a, d, hs', hr, ra, hf, k⟩ := h
  unfold sliceD at hf
  split at hf
  · cases hf
    obtain ⟨p, us, rfl, h1, q1⟩ := rv_tup ra
    refine sl_tupA pins s σ H _ v vl vu lo hi sl Q I rx hs pl pu ⟨p, us, rfl, h1, fun hw => ?_, fun _ p' hp => k.tup hr (cut_rv q1 lo hi) hp⟩
    refine k.here hr (mk_tup h1 ?_)
    have hl := q1.length
    rename_i xs
    have e2 : cutD xs lo hi = xs := by
      unfold cutD
      rw [hl, hw.1, hw.2]
      simp [← hl]
    rw [e2]
    exact q1
  · split at hf
    · cases hf
      obtain rfl := rv_str ra
      exact sl_str pins s σ H _ v vl vu lo hi sl Q I rx hs pl pu ⟨_, rfl, by assumption, k.here hr mk_str⟩
    · cases hf
  · split at hf
    · rename_i xs el
      cases hf
      obtain ⟨p, us, rfl, h1, q1⟩ := list_of hr ra el
      exact sl_list pins s σ H _ v vl vu lo hi sl Q I rx hs pl pu ⟨p, us, rfl, h1, fun p' hp => k.lst hr (cut_rv q1 lo hi) hp⟩
    · cases hf

/-! ## built-in calls -/
section
variable {X : Cx}
theorem rvs1 {K : PySem.W.Frag} {mg : Str → Option Value} {m : List Addr} {H : Hp} {a : D} {vs : List V} (h : RVs K mg m H [a] vs) : ∃ v, vs = [v] ∧ RV K mg m H a v := by
  obtain ⟨v, r, rfl, h1, h2⟩ := RVs.cons_iff.mp h
  rw [RVs.nil_iff] at h2; subst h2
  exact ⟨v, rfl, h1⟩
theorem rvs2 {K : PySem.W.Frag} {mg : Str → Option Value} {m : List Addr} {H : Hp} {a b : D} {vs : List V} (h : RVs K mg m H [a, b] vs) : ∃ v w, vs = [v, w] ∧ RV K mg m H a v ∧ RV K mg m H b w := by
  obtain ⟨v, r, rfl, h1, h2⟩ := RVs.cons_iff.mp h
  obtain ⟨w, rfl, h3⟩ := rvs1 h2
  exact ⟨v, w, rfl, h1, h3⟩

def lenD (ds : List D) : P D := fun hs => match ds with
  | [.tup xs] => some (.int xs.length, hs)
  | [.str x] => if x.length ≤ sizeLine then some (.int x.length, hs) else none
  | [d] => match listOf hs d with
    | some xs => some (.int xs.length, hs)
    | none => none
  | _ => none
theorem lenD_ok : CallR X (.builtin "len") (rPn X.K X.mg lenD) := by
  intro pins s σ H vs us Q I r h
  obtain ⟨m, hs, ds, d, hs', hr, rs, hf, k⟩ := h
  unfold lenD at hf
  split at hf
  · cases hf
    obtain ⟨v, rfl, r1⟩ := rvs1 rs
    obtain ⟨p, ws, rfl, h1, q1⟩ := rv_tup r1
    exact call_len_seq pins s σ H _ us Q I r ⟨p, ws, rfl, .inr h1, by rw [← q1.length]; exact k.here hr mk_int⟩
  · split at hf
    · cases hf
      obtain ⟨v, rfl, r1⟩ := rvs1 rs
      obtain rfl := rv_str r1
      exact call_len_str pins s σ H _ us Q I r ⟨_, rfl, by assumption, k.here hr mk_int⟩
    · cases hf
  · split at hf
    · rename_i xs el
      cases hf
      obtain ⟨v, rfl, r1⟩ := rvs1 rs
      obtain ⟨p, ws, rfl, h1, q1⟩ := list_of hr r1 el
      exact call_len_seq pins s σ H _ us Q I r ⟨p, ws, rfl, .inl h1, by rw [← q1.length]; exact k.here hr mk_int⟩
    · cases hf
  · cases hf
def absD (ds : List D) : P D := match ds with
  | [.int i] => P.pure (.int (if i < 0 then -i else i))
  | _ => P.stuck
theorem absD_ok : CallR X (.builtin "abs") (rPn X.K X.mg absD) := by
  intro pins s σ H vs us Q I r h
  obtain ⟨m, hs, ds, d, hs', hr, rs, hf, k⟩ := h
  unfold absD at hf
  split at hf
  · cases hf
    obtain ⟨v, rfl, r1⟩ := rvs1 rs
    obtain rfl := rv_int r1
    exact call_abs pins s σ H _ us Q I r ⟨_, rfl, k.here hr mk_int⟩
  · cases hf
def intsD : List D → Option (List Int)
  | [] => some []
  | .int i :: ds => (intsD ds).map (i :: ·)
  | _ :: _ => none
theorem intsD_rv {K : PySem.W.Frag} {mg : Str → Option Value} {m : List Addr} {H : Hp} : ∀ {ds : List D} {ns : List Int} {vs : List V}, intsD ds = some ns → RVs K mg m H ds vs → vs = ns.map .int
  | [], _, _, h, r => by cases h; rw [RVs.nil_iff] at r; subst r; rfl
  | d :: ds, _, _, h, r => by
    obtain ⟨v, w, rfl, r1, r2⟩ := RVs.cons_iff.mp r
    cases d <;> simp only [intsD] at h <;> try cases h
    obtain ⟨ns, e, rfl⟩ := Option.map_eq_some_iff.mp h
    obtain rfl := rv_int r1
    rw [intsD_rv e r2]
    rfl
def topI : List Int → Int
  | [] => 0
  | [n] => n
  | n :: r => if topI r > n then topI r else n
theorem topI_ok : ∀ {ns : List Int} {m : Int}, m ∈ ns → (∀ y ∈ ns, y ≤ m) → m = topI ns
  | [n], m, h, _ => by simpa [topI] using h
  | n :: a :: r, m, h, k => by
    have ih := topI_ok (ns := a :: r) (m := m)
    show m = if topI (a :: r) > n then topI (a :: r) else n
    have top : topI (a :: r) ∈ a :: r := by
      clear h k ih
      induction r generalizing a with
      | nil => simp [topI]
      | cons b r ih =>
        show (if topI (b :: r) > a then topI (b :: r) else a) ∈ _
        split
        · exact List.mem_cons_of_mem _ (ih b)
        · exact List.mem_cons_self
    rcases List.mem_cons.mp h with rfl | h
    · have := k _ (List.mem_cons_of_mem _ top)
      rw [if_neg (by omega)]
    · have e := ih h fun y hy => k y (List.mem_cons_of_mem _ hy)
      have := k n List.mem_cons_self
      split <;> omega
def lowI : List Int → Int
  | [] => 0
  | [n] => n
  | n :: r => if lowI r < n then lowI r else n
theorem lowI_ok : ∀ {ns : List Int} {m : Int}, m ∈ ns → (∀ y ∈ ns, m ≤ y) → m = lowI ns
  | [n], m, h, _ => by simpa [lowI] using h
  | n :: a :: r, m, h, k => by
    have ih := lowI_ok (ns := a :: r) (m := m)
    show m = if lowI (a :: r) < n then lowI (a :: r) else n
    have low : lowI (a :: r) ∈ a :: r := by
      clear h k ih
      induction r generalizing a with
      | nil => simp [lowI]
      | cons b r ih =>
        show (if lowI (b :: r) < a then lowI (b :: r) else a) ∈ _
        split
        · exact List.mem_cons_of_mem _ (ih b)
        · exact List.mem_cons_self
    rcases List.mem_cons.mp h with rfl | h
    · have := k _ (List.mem_cons_of_mem _ low)
      rw [if_neg (by omega)]
    · have e := ih h fun y hy => k y (List.mem_cons_of_mem _ hy)
      have := k n List.mem_cons_self
      split <;> omega
def ofInts (f : List Int → Int) (hs : Hs) (d : D) : Option (D × Hs) := match listOf hs d with
  | some xs => match intsD xs with
    | some (n :: ns) => some (.int (f (n :: ns)), hs)
    | _ => none
  | none => none
theorem ofInts_ok {K : PySem.W.Frag} {mg : Str → Option Value} {m : List Addr} {H : Hp} {hs hs' : Hs} {f : List Int → Int} {d a : D} {v : V} (h : ofInts f hs a = some (d, hs')) (hr : HR K mg m hs H) (r : RV K mg m H a v) :
    ∃ p n ns, v = .ref p ∧ SqL K H p ((n :: ns).map V.int) ∧ d = .int (f (n :: ns)) ∧ hs' = hs := by
  unfold ofInts at h
  split at h
  · rename_i xs el
    obtain ⟨p, ws, rfl, h1, q1⟩ := list_of hr r el
    split at h
    · rename_i n ns ei
      cases h
      obtain rfl := intsD_rv ei q1
      exact ⟨p, n, ns, rfl, h1, rfl, rfl⟩
    · cases h
  · cases h
def maxD (ds : List D) : P D := fun hs => match ds with
  | [.int i, .int j] => some (.int (if j > i then j else i), hs)
  | [d] => ofInts topI hs d
  | _ => none
theorem maxD_ok (hc : X.calm = true) : CallR X (.builtin "max") (rPn X.K X.mg maxD) := by
  intro pins s σ H vs us Q I r h
  obtain ⟨m, hs, ds, d, hs', hr, rs, hf, k⟩ := h
  unfold maxD at hf
  split at hf
  · cases hf
    obtain ⟨v, w, rfl, r1, r2⟩ := rvs2 rs
    obtain rfl := rv_int r1
    obtain rfl := rv_int r2
    exact call_max2 hc pins s σ H _ us Q I r ⟨_, _, rfl, k.here hr mk_int⟩
  · obtain ⟨v, rfl, r1⟩ := rvs1 rs
    obtain ⟨p, n, ns, rfl, h1, rfl, rfl⟩ := ofInts_ok hf hr r1
    exact cr_max hc pins s σ H _ us Q I r ⟨p, n :: ns, rfl, h1, by simp, fun m hm ht => by rw [topI_ok hm ht]; exact k.here hr mk_int⟩
  · cases hf
def minD (ds : List D) : P D := fun hs => match ds with
  | [.int i, .int j] => some (.int (if j < i then j else i), hs)
  | [d] => ofInts lowI hs d
  | _ => none
theorem minD_ok (hc : X.calm = true) : CallR X (.builtin "min") (rPn X.K X.mg minD) := by
  intro pins s σ H vs us Q I r h
  obtain ⟨m, hs, ds, d, hs', hr, rs, hf, k⟩ := h
  unfold minD at hf
  split at hf
  · cases hf
    obtain ⟨v, w, rfl, r1, r2⟩ := rvs2 rs
    obtain rfl := rv_int r1
    obtain rfl := rv_int r2
    exact call_min2 hc pins s σ H _ us Q I r ⟨_, _, rfl, k.here hr mk_int⟩
  · obtain ⟨v, rfl, r1⟩ := rvs1 rs
    obtain ⟨p, n, ns, rfl, h1, rfl, rfl⟩ := ofInts_ok hf hr r1
    exact cr_min hc pins s σ H _ us Q I r ⟨p, n :: ns, rfl, h1, by simp, fun m hm ht => by rw [lowI_ok hm ht]; exact k.here hr mk_int⟩
  · cases hf
def intTxt (x : Str) : Option Int := if x.length ≤ 640 then PySem.intText? x else none
def intD (ds : List D) : P D := match ds with
  | [.int i] => P.pure (.int i)
  | [.bl b] => P.pure (.int (if b then 1 else 0))
  | [.str x] => fun hs => (intTxt x).map fun n => (.int n, hs)
  | _ => P.stuck
theorem intD_ok : CallR X (.type "int") (rPn X.K X.mg intD) := by
  intro pins s σ H vs us Q I r h
  obtain ⟨m, hs, ds, d, hs', hr, rs, hf, k⟩ := h
  unfold intD at hf
  split at hf
  · cases hf
    obtain ⟨v, rfl, r1⟩ := rvs1 rs
    obtain rfl := rv_int r1
    exact call_int1 pins s σ H _ us Q I r (.inl ⟨_, rfl, k.here hr mk_int⟩)
  · cases hf
    obtain ⟨v, rfl, r1⟩ := rvs1 rs
    obtain rfl := rv_bl r1
    exact call_int1 pins s σ H _ us Q I r (.inr ⟨_, rfl, k.here hr mk_int⟩)
  · obtain ⟨n, en, e2⟩ := Option.map_eq_some_iff.mp hf
    cases e2
    unfold intTxt at en
    split at en
    · obtain ⟨v, rfl, r1⟩ := rvs1 rs
      obtain rfl := rv_str r1
      exact call_int_str pins s σ H _ us Q I r ⟨_, _, rfl, en, by assumption, k.here hr mk_int⟩
    · cases en
  · cases hf
def strD (ds : List D) : P D := match ds with
  | [.int i] => if i.natAbs.log2 < 1920 then P.pure (.str (toString i)) else P.stuck
  | _ => P.stuck
theorem strD_ok : CallR X (.type "str") (rPn X.K X.mg strD) := by
  intro pins s σ H vs us Q I r h
  obtain ⟨m, hs, ds, d, hs', hr, rs, hf, k⟩ := h
  unfold strD at hf
  split at hf
  · split at hf
    · cases hf
      obtain ⟨v, rfl, r1⟩ := rvs1 rs
      obtain rfl := rv_int r1
      exact call_str_int pins s σ H _ us Q I r ⟨_, rfl, by assumption, k.here hr mk_str⟩
    · exact (stuck_no hf).elim
  · cases hf
def tupleD (ds : List D) : P D := fun hs => match ds with
  | [.tup xs] => some (.tup xs, hs)
  | [d] => match listOf hs d with
    | some xs => some (.tup xs, hs)
    | none => none
  | _ => none
theorem tupleD_ok : CallR X (.type "tuple") (rPn X.K X.mg tupleD) := by
  intro pins s σ H vs us Q I r h
  obtain ⟨m, hs, ds, d, hs', hr, rs, hf, k⟩ := h
  unfold tupleD at hf
  split at hf
  · cases hf
    obtain ⟨v, rfl, r1⟩ := rvs1 rs
    obtain ⟨p, ws, rfl, h1, q1⟩ := rv_tup r1
    exact call_tuple_of pins s σ H _ us Q I r ⟨p, ws, rfl, .inr ⟨h1, k.here hr r1⟩⟩
  · split at hf
    · rename_i xs el
      cases hf
      obtain ⟨v, rfl, r1⟩ := rvs1 rs
      obtain ⟨p, ws, rfl, h1, q1⟩ := list_of hr r1 el
      exact call_tuple_of pins s σ H _ us Q I r ⟨p, ws, rfl, .inl ⟨h1, fun l hl => k.tup hr q1 hl⟩⟩
    · cases hf
  · cases hf
def listD (ds : List D) : P D := fun hs => match ds with
  | [.tup xs] => newL xs hs
  | [d] => match listOf hs d with
    | some xs => newL xs hs
    | none => none
  | _ => none
theorem listD_ok : CallR X (.type "list") (rPn X.K X.mg listD) := by
  intro pins s σ H vs us Q I r h
  obtain ⟨m, hs, ds, d, hs', hr, rs, hf, k⟩ := h
  unfold listD at hf
  split at hf
  · cases hf
    obtain ⟨v, rfl, r1⟩ := rvs1 rs
    obtain ⟨p, ws, rfl, h1, q1⟩ := rv_tup r1
    exact call_list_of pins s σ H _ us Q I r ⟨p, ws, rfl, .inr h1, fun l hl => k.lst hr q1 hl⟩
  · split at hf
    · rename_i xs el
      cases hf
      obtain ⟨v, rfl, r1⟩ := rvs1 rs
      obtain ⟨p, ws, rfl, h1, q1⟩ := list_of hr r1 el
      exact call_list_of pins s σ H _ us Q I r ⟨p, ws, rfl, .inl h1, fun l hl => k.lst hr q1 hl⟩
    · cases hf
  · cases hf
/-- a list of flags -/
def flags : List D → Option (List Bool)
  | [] => some []
  | .bl b :: ds => (flags ds).map (b :: ·)
  | _ :: _ => none
theorem flags_rv {K : PySem.W.Frag} {mg : Str → Option Value} {m : List Addr} {H : Hp} : ∀ {ds : List D} {bs : List Bool} {vs : List V}, flags ds = some bs → RVs K mg m H ds vs → vs = bs.map V.bl
  | [], _, _, h, r => by cases h; rw [RVs.nil_iff] at r; subst r; rfl
  | d :: ds, _, _, h, r => by
    obtain ⟨v, w, rfl, r1, r2⟩ := RVs.cons_iff.mp r
    cases d <;> simp only [flags] at h <;> try cases h
    obtain ⟨bs, e, rfl⟩ := Option.map_eq_some_iff.mp h
    obtain rfl := rv_bl r1
    rw [flags_rv e r2]
    rfl
def allD (ds : List D) : P D := fun hs => match ds with
  | [d] => match listOf hs d with
    | some xs => (flags xs).map fun bs => (.bl (bs.all id), hs)
    | none => none
  | _ => none
theorem allD_ok (hc : X.calm = true) : CallR X (.builtin "all") (rPn X.K X.mg allD) := by
  intro pins s σ H vs us Q I r h
  obtain ⟨m, hs, ds, d, hs', hr, rs, hf, k⟩ := h
  unfold allD at hf
  split at hf
  · split at hf
    · rename_i xs el
      obtain ⟨bs, eb, hz⟩ := Option.map_eq_some_iff.mp hf
      cases hz
      obtain ⟨v, rfl, r1⟩ := rvs1 rs
      obtain ⟨p, ws, rfl, h1, q1⟩ := list_of hr r1 el
      obtain rfl := flags_rv eb q1
      exact cr_all hc pins s σ H _ us Q I r ⟨p, bs, rfl, h1, k.here hr mk_bl⟩
    · cases hf
  · cases hf
def anyD (ds : List D) : P D := fun hs => match ds with
  | [d] => match listOf hs d with
    | some xs => (flags xs).map fun bs => (.bl (bs.any id), hs)
    | none => none
  | _ => none
theorem anyD_ok (hc : X.calm = true) : CallR X (.builtin "any") (rPn X.K X.mg anyD) := by
  intro pins s σ H vs us Q I r h
  obtain ⟨m, hs, ds, d, hs', hr, rs, hf, k⟩ := h
  unfold anyD at hf
  split at hf
  · split at hf
    · rename_i xs el
      obtain ⟨bs, eb, hz⟩ := Option.map_eq_some_iff.mp hf
      cases hz
      obtain ⟨v, rfl, r1⟩ := rvs1 rs
      obtain ⟨p, ws, rfl, h1, q1⟩ := list_of hr r1 el
      obtain rfl := flags_rv eb q1
      exact cr_any hc pins s σ H _ us Q I r ⟨p, bs, rfl, h1, k.here hr mk_bl⟩
    · cases hf
  · cases hf
/-! isinstance: one built-in class, or a tuple of such -/
def tyD (hs : Hs) : D → Option String
  | .non => some "NoneType"
  | .bl _ => some "bool"
  | .int _ => some "int"
  | .str _ => some "str"
  | .tup _ => some "tuple"
  | .frl _ => some "list"
  | .loc n => match hs[n]? with
    | some (.lst _) => some "list"
    | some (.dct _) => some "dict"
    | _ => none
  | _ => none
theorem tyD_ok {K : PySem.W.Frag} {mg : Str → Option Value} {m : List Addr} {H : Hp} {hs : Hs} {d : D} {v : V} {T : String} (hr : HR K mg m hs H) (r : RV K mg m H d v) (h : tyD hs d = some T) : TyX K H v (.type T) := by
  cases d with
  | non => cases h; obtain rfl := rv_non r; exact .base .non
  | bl b => cases h; obtain rfl := rv_bl r; exact .base (.bl b)
  | int i => cases h; obtain rfl := rv_int r; exact .base (.int i)
  | str x => cases h; obtain rfl := rv_str r; exact .base (.str x)
  | tup xs =>
    cases h
    obtain ⟨a, vs, rfl, h1, h2⟩ := rv_tup r
    rcases h1 with (h1 | ⟨o, h1⟩) | ⟨o, its, n, h1, h3, _⟩
    · exact .base (.tup h1)
    · exact .fTuple h1
    · exact .kTuple h1 h3
  | frl xs =>
    cases h
    obtain ⟨a, vs, rfl, h1, h2⟩ := rv_frl r
    rcases h1 with ⟨o, h1⟩ | ⟨o, its, n, h1, h3, _⟩
    · exact .base (.frz h1)
    · exact .kList h1 h3
  | loc n =>
    obtain ⟨a, rfl, hm⟩ := rv_loc r
    simp only [tyD] at h
    split at h
    · rename_i xs e
      cases h
      obtain ⟨vs, h1, h2⟩ := hr.lst_at hm e
      exact .base (.lst h1)
    · rename_i kvs e
      cases h
      obtain ⟨o, ho, ro⟩ := hr.at' hm
      rw [e] at ho
      cases ho
      obtain ⟨ks, h1, _⟩ := ro
      exact .base (.dK h1)
    · cases h
  | glo _ => cases h
  | exv => cases h
  | ty _ => cases h
/-- one of some built-in types -/
def kitBs (T : String) : List D → Option Bool
  | [] => some false
  | .ty n :: r => (match kitB T n, kitBs T r with
    | some a, some b => some (a || b)
    | _, _ => none)
  | _ :: _ => none
theorem kitBs_ok {K : PySem.W.Frag} {mg : Str → Option Value} {m : List Addr} {H : Hp} {T : String} : ∀ {ds : List D} {vs : List V} {b : Bool}, kitBs T ds = some b → RVs K mg m H ds vs → ∃ us, Paired ClsV vs us ∧ PySem.W.kitAny K (.type T) us = some b
  | [], vs, b, h, r => by
    rw [RVs.nil_iff] at r; subst r
    exact ⟨[], .nil, h⟩
  | d :: ds, vs, b, h, r => by
    obtain ⟨v, r', rfl, r1, r2⟩ := RVs.cons_iff.mp r
    unfold kitBs at h
    split at h
    · rename_i e; cases e
    · rename_i n r3 e
      cases e
      obtain rfl := rv_ty r1
      split at h
      · rename_i a b' q q'
        cases h
        obtain ⟨us, p1, p2⟩ := kitBs_ok q' r2
        refine ⟨_ :: us, .cons (.ty _) p1, ?_⟩
        unfold PySem.W.kitAny
        rw [kit_ty q]
        cases a
        · simpa using p2
        · rfl
      · cases h
    · cases h
theorem isi_tupZ {pins : List (Addr × Obj)} {s : Shared} {σ : L2.St} {H : Hp} {x t : Value} {tp : Addr} {cs : List V} {ws us : List Value} {b : Bool} {Q : VK} {PP : Heap → Prop} (I : Inv X pins σ H s) (g : Vals [.ref tp] us) (hT : SqT X.K H tp cs) (k : Paired ClsV cs ws) (Z : PySem.W.KitX X.K x t PP) (p : PP s.heap) (hx : x ≠ .builtin "__main__.__loader__#opaque")
    (e : PySem.W.kitAny X.K t ws = some b) (q : Q (.bl b) H) : wpAny (model X.prog X.w) X.A (call (.builtin "isinstance") (x :: us)) (EP X pins σ Q) X.xe s := by
  cases g with
  | @cons _ u2 _ _ r2 rn =>
  cases rn
  cases (show u2 = Value.ref tp from r2)
  rcases hT with (hT | ⟨ob, hT⟩) | ⟨o, its, n, hl, h1, h2, h3, h4⟩
  · obtain ⟨_, its, rv, o, h1, h2, n, h3⟩ := (show ObjOk X.prog X.w H s.heap tp (.tup cs) from I.hok tp _ hT)
    have e3 := ClsV.all k rv
    subst e3
    obtain ⟨oc, od, dt, sl⟩ := o
    simp only at h2 h3
    subst h2 h3
    exact PySem.W.kia_tup Z I.kIn p h1 e hx fun tk => ⟨.bl b, H, I.tok tk, rfl, q⟩
  · obtain ⟨_, its, rv, o, h1, h2, n, h3⟩ := (show ObjOk X.prog X.w H s.heap tp (.tup cs) from (I.hok tp _ hT).2)
    have e3 := ClsV.all k rv
    subst e3
    obtain ⟨oc, od, dt, sl⟩ := o
    simp only at h2 h3
    subst h2 h3
    exact PySem.W.kia_tup Z I.kIn p h1 e hx fun tk => ⟨.bl b, H, I.tok tk, rfl, q⟩
  · have e3 := ClsV.all k h4
    subst e3
    obtain ⟨oc, od, dt, sl⟩ := o
    simp only at h1 h2
    subst h1 h2
    exact PySem.W.kia_tup Z I.kIn p (I.kIn _ _ hl) e hx fun tk => ⟨.bl b, H, I.tok tk, rfl, q⟩
theorem isi_tup {pins : List (Addr × Obj)} {s : Shared} {σ : L2.St} {H : Hp} {x : V} {tp : Addr} {cs : List V} {t : Value} {ws us : List Value} {b : Bool} {Q : VK} (I : Inv X pins σ H s) (r : Vals [x, .ref tp] us) (hT : SqT X.K H tp cs) (k : Paired ClsV cs ws) (ty : TyX X.K H x t) (e : PySem.W.kitAny X.K t ws = some b) (q : Q (.bl b) H) :
    wpAny (model X.prog X.w) X.A (call (.builtin "isinstance") us) (EP X pins σ Q) X.xe s := by
  cases r with
  | @cons _ u1 _ _ r1 r2 =>
  obtain ⟨P, Z, p, hx⟩ := kit_of I r1 ty
  exact isi_tupZ I r2 hT k Z p hx e q
/-- dicts of tuples' keys, instances of own classes -/
inductive TyZ (K : PySem.W.Frag) (H : Hp) : V → Value → Prop where
  | old {v : V} {t : Value} : TyX K H v t → TyZ K H v t
  | dn {a : Addr} {xs : List NE} : DN K H a xs → TyZ K H (.ref a) (.type "dict")
  | ins {a C dx : Addr} {fs : List (Str × V)} : H a = some (.ins C dx fs) → CF K C → TyZ K H (.ref a) (.ref C)
theorem kitZ {pins : List (Addr × Obj)} {s : Shared} {σ : L2.St} {H : Hp} {v : V} {u t : Value} (I : Inv X pins σ H s) (r : RelV v u) (ty : TyZ X.K H v t) : ∃ PP : Heap → Prop, PySem.W.KitX X.K u t PP ∧ PP s.heap ∧ u ≠ .builtin "__main__.__loader__#opaque" := by
  cases ty with
  | old ty => exact kit_of I r ty
  | dn d =>
    cases r
    obtain ⟨o, _, _, ho, hc, _⟩ := dn_of I d
    exact ⟨_, PySem.W.kitx_dict, ⟨o, ho, hc.1⟩, (fun z => nomatch z)⟩
  | ins e cf =>
    cases r
    obtain ⟨mA, O, _⟩ := ins_get I.hok e
    obtain ⟨od, J, _⟩ := O.look
    exact ⟨_, PySem.W.kitx_own (cf.cls.get _) cf.cls.hd cf.cc cf.hn cf.tk cf.mo, J, (fun z => nomatch z)⟩
def tyE (hs : Hs) : D → Option (Option String)
  | .loc n => match hs[n]? with
    | some (.dcn _) => some (some "dict")
    | some (.ins _ _) => some none
    | _ => none
  | _ => none
/-- an instance's answers -/
def noneOf : List D → Bool
  | [] => true
  | .ty n :: r => tyList.contains n && noneOf r
  | _ :: _ => false
def isiE (hs : Hs) (x : D) (cs : List D) : Option Bool := match tyE hs x with
  | some (some T) => kitBs T cs
  | some none => if noneOf cs = true then some false else none
  | none => none
theorem isiE_ok {m : List Addr} {H : Hp} {hs : Hs} {d : D} {cs : List D} {v : V} {ws : List V} {b : Bool} (hr : HR X.K X.mg m hs H) (r : RV X.K X.mg m H d v) (rs : RVs X.K X.mg m H cs ws) (h : isiE hs d cs = some b) : ∃ t us, TyZ X.K H v t ∧ Paired ClsV ws us ∧ PySem.W.kitAny X.K t us = some b := by
  unfold isiE at h
  split at h
  · rename_i T e
    unfold tyE at e
    split at e
    · obtain ⟨a, rfl, hm⟩ := rv_loc r
      split at e
      · rename_i kvs e0
        cases e
        obtain ⟨xs, dn, _⟩ := hr.dcn_at hm e0
        obtain ⟨us, p1, p2⟩ := kitBs_ok (K := X.K) h rs
        exact ⟨_, us, .dn dn, p1, p2⟩
      · cases e
      · cases e
    · cases e
  · rename_i e
    unfold tyE at e
    split at e
    · obtain ⟨a, rfl, hm⟩ := rv_loc r
      split at e
      · cases e
      · rename_i c fs e0
        obtain ⟨C, dx, vs, hg, hH, hf, cf, hn⟩ := hr.ob _ _ a e0 hm
        split at h
        · rename_i hall
          cases h
          suffices key : ∀ (cs : List D) (ws : List V), noneOf cs = true → RVs X.K X.mg m H cs ws → ∃ us, Paired ClsV ws us ∧ PySem.W.kitAny X.K (.ref C) us = some false by
            obtain ⟨us, p1, p2⟩ := key cs ws hall rs
            exact ⟨_, us, .ins hH cf, p1, p2⟩
          intro cs
          induction cs with
          | nil => intro ws _ rs; rw [RVs.nil_iff] at rs; subst rs; exact ⟨[], .nil, rfl⟩
          | cons d ds ih =>
            intro ws hall rs
            obtain ⟨v, r', rfl, r1, r2⟩ := RVs.cons_iff.mp rs
            cases d <;> simp only [noneOf] at hall <;> try cases hall
            rw [Bool.and_eq_true] at hall
            obtain rfl := rv_ty r1
            obtain ⟨us, p1, p2⟩ := ih _ hall.2 r2
            refine ⟨_ :: us, .cons (.ty _) p1, ?_⟩
            unfold PySem.W.kitAny
            rw [cf.nt _ (by simpa using hall.1)]
            exact p2
        · cases h
      · cases e
    · cases e
  · cases h
def isiD (ds : List D) : P D := fun hs => match ds with
  | [x, .ty n] => match tyD hs x with
    | some T => (kitB T n).map fun c => (.bl c, hs)
    | none => (isiE hs x [.ty n]).map fun c => (.bl c, hs)
  | [x, .tup cs] => match tyD hs x with
    | some T => (kitBs T cs).map fun c => (.bl c, hs)
    | none => (isiE hs x cs).map fun c => (.bl c, hs)
  | _ => none
theorem kitAny_one {K : PySem.W.Frag} {t c : Value} {b : Bool} (h : PySem.W.kitAny K t [c] = some b) : PySem.W.kitOne K t c = some b := by
  unfold PySem.W.kitAny at h
  split at h
  · rename_i e; rw [e]; exact h
  · rename_i e; rw [e]; exact h
  · cases h
theorem isiD_ok : CallR X (.builtin "isinstance") (rPn X.K X.mg isiD) := by
  intro pins s σ H vs us Q I r h
  obtain ⟨m, hs, ds, d, hs', hr, rs, hf, k⟩ := h
  unfold isiD at hf
  split at hf
  · split at hf
    · rename_i T e
      obtain ⟨c, ec, hz⟩ := Option.map_eq_some_iff.mp hf
      cases hz
      obtain ⟨v, w, rfl, r1, r2⟩ := rvs2 rs
      obtain rfl := rv_ty r2
      exact call_isi pins s σ H _ us Q I r ⟨v, _, _, _, c, rfl, .ty _, tyD_ok hr r1 e, kit_ty ec, k.here hr mk_bl⟩
    · obtain ⟨c, ec, hz⟩ := Option.map_eq_some_iff.mp hf
      cases hz
      obtain ⟨v, w, rfl, r1, r2⟩ := rvs2 rs
      obtain ⟨t, us', ty, p1, p2⟩ := isiE_ok hr r1 (RVs.cons r2 (RVs.nil_iff.mpr rfl)) ec
      obtain rfl := rv_ty r2
      cases r with
      | @cons _ u1 _ _ g1 g2 =>
      cases g2 with
      | @cons _ u2 _ _ g3 g4 =>
      cases g4
      cases p1 with
      | @cons _ _ _ _ c1 c2 =>
      cases c2
      cases c1 with
      | ty =>
      cases (show u2 = Value.type _ from g3)
      obtain ⟨PP, Z, p, hx⟩ := kitZ I g1 ty
      exact PySem.W.kia_one Z I.kIn p (kitAny_one p2) hx fun tk => ⟨.bl c, H, I.tok tk, rfl, k.here hr mk_bl⟩
  · split at hf
    · rename_i T e
      obtain ⟨c, ec, hz⟩ := Option.map_eq_some_iff.mp hf
      cases hz
      obtain ⟨v, w, rfl, r1, r2⟩ := rvs2 rs
      obtain ⟨tp, cs, rfl, hT, r3⟩ := rv_tup r2
      obtain ⟨ws, p1, p2⟩ := kitBs_ok (K := X.K) ec r3
      exact isi_tup I r hT p1 (tyD_ok hr r1 e) p2 (k.here hr mk_bl)
    · obtain ⟨c, ec, hz⟩ := Option.map_eq_some_iff.mp hf
      cases hz
      obtain ⟨v, w, rfl, r1, r2⟩ := rvs2 rs
      obtain ⟨tp, cs, rfl, hT, r3⟩ := rv_tup r2
      obtain ⟨t, us', ty, p1, p2⟩ := isiE_ok hr r1 r3 ec
      cases r with
      | @cons _ u1 _ _ g1 g2 =>
      obtain ⟨PP, Z, p, hx⟩ := kitZ I g1 ty
      exact isi_tupZ I g2 hT p1 Z p hx p2 (k.here hr mk_bl)
  · cases hf
end
end DL
set_option Elab.async false
set_option linter.all false
set_option maxRecDepth 100000
set_option maxHeartbeats 4000000
namespace DL
open PySem PySem.Spec PyProof.Rows L2

/-! ## a def's promise where no repr is under way -/
structure FnG (P : Program) (w : World) (K : PySem.W.Frag) (mg : Str → Option Value) (base : Heap) (CX : CXT) (k : Nat) (f : Addr) (fd : FuncData) (ps : List Str) (sp : Sp) : Prop where
  many : ∀ vs H Q E, sp vs H Q E → vs.length = ps.length
  go : ∀ {A : Around} {outer : List Env} {s : Shared} {H : Hp} {args : Args} {us : List Value} {vs : List V} {Q : VK} {E : XK}, A.guards = some [] → Room k A → Env0 P w K mg base A outer s H → BindsTo s fd args (ps.zip us) → Vals vs us →
    sp vs H Q E → codeAny (model P w) A (.call (.ref f) args) (CR CX outer P w H s Q E) s
section
variable {P : Program} {w : World} {K : PySem.W.Frag} {mg : Str → Option Value} {base : Heap} {CX : CXT} {f : Addr} {fd : FuncData} {ps : List Str} {sp sp' : Sp} {j k : Nat}
theorem FnG.up (F : FnG P w K mg base CX j f fd ps sp) (h : j ≤ k) : FnG P w K mg base CX k f fd ps sp where
  many := F.many
  go := fun g r => F.go g (r.mono h)
theorem FnG.weak (F : FnG P w K mg base CX k f fd ps sp) (h : ∀ vs H Q E, sp' vs H Q E → sp vs H Q E) : FnG P w K mg base CX k f fd ps sp' where
  many := fun vs H Q E q => F.many vs H Q E (h vs H Q E q)
  go := fun g r e b v q => F.go g r e b v (h _ _ _ _ q)
/-- a def by its body -/
theorem fnG_of {x qual : Str} {st : Stmt} {N : List Str} (F : Fun K x qual st f fd) (S : FnScope N ps (defScope st)) (many : ∀ vs H Q E, sp vs H Q E → vs.length = ps.length)
    (body : ∀ (cdv : Value) (A : Around) (outer : List Env) (s : Shared) (H : Hp) (vs : List V) (Q : VK) (E : XK), A.guards = some [] → Room k (A.deeper (envOfC qual (defScope st) s.heap.objs.size f cdv)) → sp vs H Q E →
      ∃ t, PSs (cxOf CX P w K mg base N qual (defScope st) f cdv A outer s H E) (defBody st) t ∧ t { nx := fun _ H' => Q .non H', rt := Q } (L2.start N vs) H) : FnG P w K mg base CX (k + 1) f fd ps sp := by
  obtain ⟨_, _, _, _, _, _, cdv, _, _, rfl, looked, coded⟩ := F.ex
  refine ⟨many, ?_⟩
  intro A outer s H args us vs Q E gd room env binds vals wish
  have kept := fun b o (e : base.get? b = some o) => (env.bs b o e).1
  have KX : K.In s.heap := env.mod.kin.keeps kept
  have kinds : ∀ y ∈ ps.zip us, (defScope st).names.lookup y.1 = some .local ∨ ((defScope st).names.lookup y.1 = some .cell ∧ ((cellsFrom (s.heap.objs.size + 1) (defScope st).names []).lookup y.1).isSome = true) := by
    rintro ⟨n, v⟩ hy
    exact (S.par n (List.of_mem_zip hy).1).imp id fun q => ⟨q, PySem.W.cellsFrom_some _ _ _ (.inl q)⟩
  refine codeAny_call_function room.depth (KX _ _ looked) rfl S.co S.gen rfl (PySem.W.codeRec_of KX coded) (binds _ _ _ _ (wpAny_newFunctionEnv_cells S.kind kinds fun e he s1 ic => ?_))
  cases he
  refine ⟨(env.mod.nolimit.keeps kept).keeps ic.toInCall.keep, codeAny_func ?_⟩
  obtain ⟨t, ht, hq⟩ := body cdv A outer s H vs Q E gd (room.deeper _) wish
  have I0 := inv_start (CX := CX) (E := E) S room.hd env (many _ _ _ _ wish) vals ic
  refine wpAny_mono (ht.run [] s1 _ H _ I0 hq) (fun fl s2 end_ => ?_) fun _ _ raised => raised
  cases fl with
  | brk => obtain ⟨_, _, _, no⟩ := end_; exact no.elim
  | cont => obtain ⟨_, _, _, no⟩ := end_; exact no.elim
  | next => obtain ⟨_, H2, J, q⟩ := end_; exact ⟨.non, H2, J.os, J.bare, J.base, J.hok, rfl, q⟩
  | ret u => obtain ⟨v, _, H2, J, rv, q⟩ := end_; exact ⟨v, H2, J.os, J.bare, J.base, J.hok, rv, q⟩
end
section
variable {X : Cx} {CX : CXT} {k : Nat} {f : Addr} {fd : FuncData} {ps : List Str} {sp : Sp} {E : L2.St → XK} {σ : L2.St}
theorem runG {pins : List (Addr × Obj)} {H : Hp} {s : Shared} {Q : VK} {us : List Value} {vs : List V} (F : FnG X.prog X.w X.K X.mg X.base CX k f fd ps sp) (gd : X.A.guards = some []) (room : Room k X.A) (binds : Binds X.K fd ps []) (pass : PassesAt CX X σ (E σ))
    (I : Inv X pins σ H s) (r : Vals vs us) (wish : sp vs H Q (E σ)) : wpAny (model X.prog X.w) X.A (call (.ref f) us) (EP X pins σ Q) X.xe s := by
  have bound := binds s us I.kIn (by rw [List.append_nil, ← r.length]; exact F.many _ _ _ _ wish)
  rw [List.append_nil] at bound
  refine wpAny_call (codeAny_mono (F.go gd room I.env0 bound r wish) ?_)
  intro res s2 told
  match res, told with
  | .error e, told => exact pass pins H s e s2 I told
  | .ok (.ret u), told => exact I.after told
  | .ok .next, told => exact told.elim
  | .ok .brk, told => exact told.elim
  | .ok .cont, told => exact told.elim
end
/-! ## the law's call -/
theorem hidden {H : Hp} {h : Heap} {b : Addr} {o : Obj} (e : h.get? b = some o) (n : H b = none) : (hidT h H).get? b = some o := hidT_get e n
theorem callG {P : Program} {w : World} {K : PySem.W.Frag} {mg mb : Str → Option Value} {CX : CXT} {k : Nat} {fa a : Addr} {fd : FuncData} {x : Str} {sp : Sp} {s : Shared} {vs : List Value} {ns : List Int}
    (KX : K.In s.heap) (hm : s.heap.Ns mainGlobals mg) (hb : s.heap.Ns builtinsNs mb) (boot : ∀ x : Str, x ≠ "__name__" → mb x = bootBuiltins x) (lim : s.heap.NoLimit) (gens : s.gens = #[])
    (obj : s.heap.get? a = some { cls := .type "list", data := .seq vs.toArray }) (ints_ : IntsAre vs ns) (short : ns.length ≤ sizeLine) (room : Room k callerA)
    (F : ∀ base : Heap, K.In base → base.Ns mainGlobals mg → FnG P w K mg base CX k fa fd [x] sp) (binds : ∀ (s : Shared) (u : Value), BindsTo s fd ⟨[u], []⟩ [(x, u)])
    (wish : ∀ H : Hp, Only H → SqL K H a (ns.map V.int) → sp [.ref a] H (fun v _ => v = .bl true) fun _ _ _ => False) (none_ : ∀ H e s', CX [] H s (fun _ _ _ => False) e s' → False) :
    codeAny (model P w) callerA (.call (.ref fa) ⟨[.ref a], []⟩) (fun r s' => r = .ok (.ret (.bool true)) ∧ OldK s.heap s'.heap ∧ s'.os = s.os ∧ AllBare s'.gens) s := by
  have vals := vals_ints ints_
  have many := ints_.length
  suffices main : ∀ H : Hp, Only H → SqL K H a (ns.map V.int) → HOk P w H s.heap → (∀ b, H b ≠ none → b = a ∧ K.lookup a = none) →
      codeAny (model P w) callerA (.call (.ref fa) ⟨[.ref a], []⟩) (fun r s' => r = .ok (.ret (.bool true)) ∧ OldK s.heap s'.heap ∧ s'.os = s.os ∧ AllBare s'.gens) s by
    cases known : K.lookup a with
    | some o =>
      have e := KX a o known
      rw [obj] at e
      cases e
      exact main (fun _ => none) (fun _ => .inl rfl) (.inr ⟨_, _, _, known, rfl, rfl, rfl, by rw [List.size_toArray, many]; exact short, by simpa using vals⟩) (fun _ _ z => nomatch (show (none : Option HO) = some _ from z)) fun _ z => (z rfl).elim
    | none =>
      let T : Hp := fun b => if b = a then some (HO.frz { cls := .type "list", data := .seq vs.toArray } (.lst (ns.map V.int))) else none
      have itself : T a = some (.frz { cls := .type "list", data := .seq vs.toArray } (.lst (ns.map V.int))) := if_pos rfl
      refine main T (fun b => ?_) (.inl (.inr ⟨_, itself⟩)) (fun b u z => ?_) fun b z => ?_
      · by_cases q : b = a
        · subst q; exact .inr ⟨_, _, itself⟩
        · exact .inl (if_neg q)
      · by_cases q : b = a
        · subst q
          obtain rfl := Option.some.inj (itself.symm.trans z)
          exact ⟨obj, by rw [List.length_map]; exact short, vs, _, vals, obj⟩
        · exact nomatch ((if_neg q).symm.trans z : (none : Option HO) = some u)
      · by_cases q : b = a
        · exact ⟨q, known⟩
        · exact (z (if_neg q)).elim
  intro H only seq hok alone
  have free : ∀ {b : Addr} {o : Obj}, s.heap.get? b = some o → (b = a → K.lookup a = none → False) → H b = none := fun {b o} e no => by
    cases q : H b with
    | none => rfl
    | some u =>
      obtain ⟨e1, e2⟩ := alone b (by rw [q]; exact fun z => nomatch z)
      exact (no e1 e2).elim
  have space : ∀ {b : Addr} {m : Str → Option Value}, s.heap.Ns b m → (hidT s.heap H).Ns b m := fun {b m} ⟨o, es, ep, e, d, r⟩ => by
    refine ⟨o, es, ep, hidden e (free e fun q _ => ?_), d, r⟩
    subst q
    rw [obj] at e
    obtain rfl := Option.some.inj e
    exact nomatch d
  have kin : K.In (hidT s.heap H) := fun b o e => hidden (KX b o e) (free (KX b o e) fun q z => by
    subst q
    rw [z] at e
    cases e)
  have mod : Mod K mg (hidT s.heap H) := ⟨kin, space hm, ⟨mb, space hb, boot⟩, lim.imp fun mc q => ⟨space q.1, q.2⟩⟩
  have env : Env0 P w K mg (hidT s.heap H) callerA [] s H := ⟨rfl, mod, fun _ _ e => of_hidT e, Nat.le_of_eq (hidT_size _ _), trivial, (fun _ z => absurd (show _ ∈ ([] : List Addr) from z) (by simp)), hok, .of_eq gens⟩
  refine codeAny_mono ((F _ kin (space hm)).go (us := [.ref a]) rfl room env (binds s (.ref a)) (Paired.cons (show RelV (V.ref a) (Value.ref a) from rfl) .nil) (wish H only seq)) ?_
  intro res s2 told
  match res, told with
  | .error e, told => exact (none_ H e s2 told).elim
  | .ok .next, told => exact told.elim
  | .ok .brk, told => exact told.elim
  | .ok .cont, told => exact told.elim
  | .ok (.ret u), told =>
    obtain ⟨v, H2, os, bare, un, hok2, rv, q⟩ := told
    have q : v = .bl true := q
    subst q
    obtain rfl : u = Value.bool true := rv
    refine ⟨rfl, OldK.of_keep fun b o e => ?_, os, bare⟩
    rcases only b with z | ⟨ob, xs, z⟩
    · exact un.keep b o e z (fun y => absurd (show _ ∈ ([] : List Addr) from y) (by simp)) (by simp)
    · have here := (hok b _ z).1
      rw [e] at here
      obtain rfl := Option.some.inj here
      exact (hok2 b _ (un.frzs b _ _ z)).1
end DL
set_option Elab.async false
set_option linter.all false
set_option maxRecDepth 100000
set_option maxHeartbeats 4000000
namespace DL
open PySem PySem.Spec PyProof.Rows L2
open AutoSeq1 (wpAny_loadPart')

/-! ## enumerate of a tuple -/
theorem enum_new_any {v : Value} {o : Obj} {H : Heap → Prop} (B : Begins v o H) :
    Meets (Builtin.«enumerate.__new__» ⟨[.type "enumerate", v], []⟩) (fun _ R s => H s.heap ∧
      R (.ok (.ret (.ref (s.heap.push o).objs.size))) { s with heap := (s.heap.push o).push { cls := .type "enumerate", data := .fields #[.none, .bool false, .ref s.heap.objs.size, rawInt 0, .none, .none] } }) :=
  .of_wp fun prog w A R s ⟨h1, h⟩ => by
    obtain ⟨hp, g, d, tk, os⟩ := s
    have sub := sub_enumerate
    have it : ∀ {A' : Around} {E : Value → Shared → Prop} {Q : Value → Shared → Prop}, Q (.ref hp.objs.size) ⟨hp.push o, g, d, tk, os⟩ → wpAny (model prog w) A' (pyIter v) Q E ⟨hp, g, d, tk, os⟩ := fun q => B.iter prog w _ _ ⟨hp, g, d, tk, os⟩ _ h1 q
    wp_walk using it
    refine wpAny_stack_any fun st => wpAny_pure ?_
    split
    · rename_i c _ _ _ _ _
      cases (c == Value.type "enumerate") <;> (wp_walk using it; exact ⟨_, rfl, h⟩)
    · wp_walk using it
      exact ⟨_, rfl, h⟩
theorem enum_call {prog : Program} {w : World} {A : Around} {E : Value → Shared → Prop} {s : Shared} {v : Value} {o : Obj} {H : Heap → Prop} {Q : Value → Shared → Prop} (B : Begins v o H) (h1 : H s.heap)
    (h : ∀ h', IsEnum h' (s.heap.objs.size + 1) s.heap.objs.size 0 .none → h'.get? s.heap.objs.size = some o → (∀ b u, s.heap.get? b = some u → h'.get? b = some u) → Q (.ref (s.heap.objs.size + 1)) { s with heap := h' }) :
    wpAny (model prog w) A (call (.type "enumerate") [v]) Q E s := by
  have new := enum_new_any B
  have size : (s.heap.push o).objs.size = s.heap.objs.size + 1 := Heap.size_push ..
  refine callType_new F.called_enumerate (by decide) (F.typeCall_enumerate_1 _) (F.newCall_enumerate_1 _) (fun x => F.args_object_init_2 x _) F.entry_enumerate_new new ⟨h1, ?_⟩
  show _ ∧ _
  rw [size]
  have made : IsEnum ((s.heap.push o).push { cls := .type "enumerate", data := .fields #[.none, .bool false, .ref s.heap.objs.size, rawInt 0, .none, .none] }) (s.heap.objs.size + 1) s.heap.objs.size 0 .none := by
    have q := Heap.get?_push_size (s.heap.push o) (o := { cls := .type "enumerate", data := .fields #[.none, .bool false, .ref s.heap.objs.size, rawInt 0, .none, .none] }) rfl
    rw [size] at q
    exact q
  exact ⟨⟨_, made, rfl⟩, h _ made (Heap.get?_push_of_some _ (Heap.get?_push_size _ B.free)) fun b u x => Heap.get?_push_of_some _ (Heap.get?_push_of_some _ x)⟩
/-- the tuple at a, each item in a new pair -/
def IteT (K : PySem.W.Frag) (a : Addr) : It :=
  ⟨fun i H => ∃ xs x, SqT K H a xs ∧ xs[i]? = some x, fun i H v H' => ∃ T x, v = .ref T ∧ H T = none ∧ H' = upd H T (.tup [.int (i : Nat), x]) ∧ ∀ xs, SqT K H a xs → xs[i]? = some x, fun i H => ∃ xs, SqT K H a xs ∧ xs.length ≤ i⟩
theorem turn_enumT {P : Program} {w : World} {K : PySem.W.Frag} {elts : List Expr} {kk : Nat} {tpos : Pos} (a e it : Addr) :
    Turn P w K (.Tuple elts kk tpos) (IteT K a) [e, it] e (fun i h => (∃ old, IsEnum h e it ((i : Nat) : Int) old) ∧ h.IsTupleIter it a i ∧ e ≠ it) where
  mem := List.mem_cons_self
  obj := fun i h ⟨⟨old, he⟩, ⟨o, ho, hc, hd⟩, _⟩ b hb => by
    rcases List.mem_cons.mp hb with rfl | hb
    · exact ⟨_, he, fun v q => nomatch q⟩
    · obtain rfl := List.mem_singleton.mp hb
      exact ⟨o, ho, fun v q => by rw [hd] at q; cases q⟩
  keep := fun i h h' ⟨⟨old, he⟩, hi, hne⟩ k => ⟨⟨old, k e List.mem_cons_self _ he⟩, hi.at fun o q => k it (by simp) o q, hne⟩
  item := by
    intro X hP hw hK hc i pins s σ H E I hf ⟨⟨old, he⟩, hit, hne⟩ ⟨xs, x, hq, hx⟩
    subst hP hw hK
    obtain ⟨its, rv, p, _⟩ := I.tuple hq
    obtain ⟨u, hu, ru⟩ := rv.get hx
    have el := Heap.lt_size he
    have il : it < s.heap.objs.size := by obtain ⟨_, q, _⟩ := hit; exact Heap.lt_size q
    have ta : s.heap.IsTuple a its.toArray := p
    have nea : ∀ b n, (∃ o, s.heap.get? b = some o ∧ o.cls = .type n) → n ≠ "tuple" → a ≠ b := by
      rintro b n ⟨o, ho, hn⟩ hz rfl
      obtain ⟨o2, h2, c2, _⟩ := ta
      rw [ho] at h2
      cases h2
      rw [hn] at c2
      exact hz (by injection c2)
    have aIt : a ≠ it := nea it "tuple_iterator" (by obtain ⟨o, q, c, _⟩ := hit; exact ⟨o, q, c⟩) (by decide)
    have aE : a ≠ e := nea e "enumerate" ⟨_, he, rfl⟩ (by decide)
    have D := Draws.tuple (prog := X.prog) (w := X.w) (A := X.A.in1) (by show X.A.handled = none; exact I.ok.hd hc) it a aIt its.toArray
    have hlt : i < its.toArray.size := by
      have := (List.getElem?_eq_some_iff.mp hu).1
      simpa using this
    refine wpAny_pyNext_enum_itemD D he ⟨hit, ta⟩ hlt hne (fun z => ?_) fun y h' tk hy ho hst hT hsz hk => ?_
    · rcases List.mem_cons.mp z with z | z
      · exact hne z
      · exact aE (List.mem_singleton.mp z).symm
    · have ey : y = u := by
        have q : its[i]? = some y := by simpa using hy
        rw [hu] at q
        exact (Option.some.inj q).symm
      subst ey
      refine ⟨_, rfl, wpAny_letOwnedTupleGo_enum (s := { s with heap := h', toks := tk + 1 }) ho fun h2 he2 sb => ?_⟩
      have eT : h2.get? s.heap.objs.size = some { cls := .type "tuple", data := .seq #[.int i tk, y] } := (sb.2 _ (Nat.ne_of_gt el)).trans hT
      have new : ObjOk X.prog X.w (upd H s.heap.objs.size (.tup [.int (i : Nat), x])) h2 s.heap.objs.size (.tup [.int (i : Nat), x]) := ⟨by show 2 ≤ sizeLine; decide, [.int i tk, y], .cons ⟨_, rfl⟩ (.cons ru .nil), _, eT, rfl, _, rfl⟩
      have other : ∀ b o, b ∉ [e, it] → s.heap.get? b = some o → h2.get? b = some o := fun b o hb q => by
        have b1 : b ≠ e := fun z => hb (by simp [z])
        have b2 : b ≠ it := fun z => hb (by simp [z])
        exact (sb.2 b b1).trans (hk b o b1 b2 q)
      refine ⟨.ref s.heap.objs.size, _, I.turnedNew (t' := tk + 1) other hf (Nat.le_refl _) new, rfl, ⟨_, x, rfl, I.hok.fresh (Nat.le_refl _), rfl, fun ys hy => by rw [I.tuple_inj hy hq]; exact hx⟩, ⟨⟨y, ?_⟩, hst.1.at fun o q => (sb.2 it (Ne.symm hne)).trans q, hne⟩, fun b hb => ?_⟩
      · rw [show ((i + 1 : Nat) : Int) = (i : Int) + 1 by omega]; exact he2
      · have hl : b < s.heap.objs.size := by
          rcases List.mem_cons.mp hb with rfl | hb
          · exact el
          · rw [List.mem_singleton.mp hb]; exact il
        rw [upd_ne (Nat.ne_of_lt hl)]
        exact (hf b hb).1
  done := by
    intro X hP hw hK hc i pins s σ H E I hf ⟨⟨old, he⟩, hit, hne⟩ ⟨xs, hq, hx⟩
    subst hP hw hK
    obtain ⟨its, rv, p, _⟩ := I.tuple hq
    have ta : s.heap.IsTuple a its.toArray := p
    have hl := rv.length
    obtain ⟨f0, f1, f2, f3, f4, f5⟩ := hf it (by simp)
    have hT : s.TypeIs (.ref e) "enumerate" := ⟨_, he, rfl⟩
    unfold pyNext
    refine wpAny_bind (wpAny_attempt (wpAny_callSpecial?_slot (name := Str.ofString "__next__") hT F.slot_enumerate_next (wpAny_call_entry F.slot_enumerate_next hT F.entry_enumerate_next ?_ (F.args_enumerate_next_1 _))))
    show wpAny _ _ (field (.ref e) 2 >>= _) _ _ _
    refine wpAny_bind (wpAny_field he rfl (x := .ref it) rfl ?_)
    refine wpAny_bind (wpAny_nextOf_tuple_end (by show X.A.handled = none; exact I.ok.hd hc) hit ta (by simp; omega) fun h' x eb ⟨o, ho, hcl⟩ => ?_)
    exact wpAny_bind (wpAny_isInstance (T := "StopIteration") (b := true) ⟨o, ho, hcl⟩ isSubtype_stop (wpAny_pure ⟨rfl, I.turned (t' := s.toks) (fun b u hb q => eb b u hb q) f0 f1 f3 f4 f5⟩))
  self := fun A i s Q E ⟨⟨_, he⟩, _⟩ h => wpAny_pyIter_enum he h
section
variable {X : Cx} {e : Expr} {ta : TA} {p pos tpos : Pos} {elts : List Expr} {kk : Nat}
def iEnumA (K : PySem.W.Frag) (ta : TA) : TI := fun σ H R => ta σ H fun vs H1 => ∃ a, vs = [.ref a] ∧ ((∃ xs, SqL K H1 a xs) ∧ R (Ite K a) H1 ∨ (∃ xs, SqT K H1 a xs) ∧ R (IteT K a) H1)
theorem pi_enumA (hg : Gl X "enumerate") (hm : X.mg "enumerate" = none) (ha : PA X [e] ta) (hs : starEach [e] X.env = [(false, eval e X.env)]) : PI X (.Tuple elts kk tpos) (.Call (.Name "enumerate" p) [e] [] pos) (iEnumA X.K ta) := by
  refine ⟨fun pins s σ H R I h => ?_⟩
  refine Call_ (ld_blt I hg hm boot_enumerate (PyProof.Rows.callWith_type1 (thn (ha.run pos pins s σ H _ I h) fun us s1 ⟨vs, H1, I1, r1, q1⟩ => ?_) hs rfl))
  obtain ⟨a, rfl, q1⟩ := q1
  obtain rfl := Vals.ref1 r1
  have apart : ∀ b ∈ [s1.heap.objs.size + 1, s1.heap.objs.size], FpOk X pins H1 b := fun b hb => by
    have le : s1.heap.objs.size ≤ b := by
      rcases List.mem_cons.mp hb with rfl | hb
      · exact Nat.le_succ _
      · rw [List.mem_singleton.mp hb]; exact Nat.le_refl _
    exact I1.fpOk le (I1.hok.fresh le)
  rcases q1 with ⟨⟨xs, hq⟩, q⟩ | ⟨⟨xs, hq⟩, q⟩
  · obtain ⟨its, rv, pl, _⟩ := I1.list hq
    refine enum_call (begins_list a its.toArray) pl.isList fun h' he hit hk => wpAny_pyIter_enum he ?_
    exact ⟨s1.heap.objs.size + 1, [s1.heap.objs.size + 1, s1.heap.objs.size], _, _, H1, rfl, I1.kept (t' := s1.toks) hk, turn_enum a _ _, ⟨⟨.none, he⟩, ⟨_, hit, rfl, rfl⟩, Nat.succ_ne_self _⟩, apart, q⟩
  · obtain ⟨its, rv, pt, _⟩ := I1.tuple hq
    refine enum_call (begins_tuple a its.toArray) (show s1.heap.IsTuple a its.toArray from pt) fun h' he hit hk => wpAny_pyIter_enum he ?_
    exact ⟨s1.heap.objs.size + 1, [s1.heap.objs.size + 1, s1.heap.objs.size], _, _, H1, rfl, I1.kept (t' := s1.toks) hk, turn_enumT a _ _, ⟨⟨.none, he⟩, ⟨_, hit, rfl, rfl⟩, Nat.succ_ne_self _⟩, apart, q⟩
end
end DL
set_option Elab.async false
set_option linter.all false
set_option maxRecDepth 100000
set_option maxHeartbeats 4000000
namespace DL
open PySem PySem.Spec PyProof.Rows L2 HT

/-! ## a tuple turned about -/
theorem back_places (n : Nat) : Builtin.Slice.sliceAdjust none none (-1) (n : Int) = ((n : Int) - 1, -1) ∧ Builtin.Slice.slicePlaces ((n : Int) - 1) (-1) (-1) = n := by
  constructor
  · unfold Builtin.Slice.sliceAdjust
    simp
  · unfold Builtin.Slice.slicePlaces
    simp
    omega
theorem fm_congr {α β : Type} {f g : α → Option β} : ∀ {l : List α}, (∀ m ∈ l, f m = g m) → l.filterMap f = l.filterMap g
  | [], _ => rfl
  | x :: l, h => by simp only [List.filterMap_cons, h x List.mem_cons_self, fm_congr (l := l) fun m hm => h m (List.mem_cons_of_mem _ hm)]
theorem back_pick (xs : Array Value) : ((List.range xs.size).filterMap fun (m : Nat) => xs[(((xs.size : Int) - 1) + (m : Int) * (-1)).toNat]?).toArray = xs.toList.reverse.toArray := by
  congr 1
  have e : (List.range xs.size).filterMap (fun (m : Nat) => xs[(((xs.size : Int) - 1) + (m : Int) * (-1)).toNat]?) = ((List.range xs.size).map fun k => xs.size - 1 - k).filterMap (xs[·]?) := by
    rw [List.filterMap_map]
    refine fm_congr fun m hm => ?_
    have hm := List.mem_range.mp hm
    have : (((xs.size : Int) - 1) + (m : Int) * (-1)).toNat = xs.size - 1 - m := by omega
    simp only [Function.comp, this]
  rw [e, PySem.W.krv_range, List.filterMap_reverse, PySem.W.krv_all]
section
variable {prog : Program} {w : World} {A : Around} {E : Value → Shared → Prop} {s : Shared}
theorem applied_back {sl : Addr} {vl vu vs : Value} {n : Nat} {Q : Int × Int × Nat → Shared → Prop} (held : s.heap.IsSliceOf sl vl vu vs) (pl : IsPart vl none) (pu : IsPart vu none) (ps : IsPart vs (some (-1))) (h : Q ((n : Int) - 1, -1, n) s) :
    wpAny (model prog w) A (Builtin.Slice.sliceApplied (.ref sl) (pure (n : Int))) Q E s := by
  obtain ⟨os, hos, hcs, hds⟩ := id held
  obtain ⟨e1, e2⟩ := back_places n
  unfold Builtin.Slice.sliceApplied Builtin.Slice.sliceFields
  refine wpAny_bind (wpAny_bind (wpAny_field hos hds (x := vl) rfl (wpAny_bind (wpAny_field hos hds (x := vu) rfl (wpAny_bind (wpAny_field hos hds (x := vs) rfl (wpAny_pure ?_)))))))
  refine wpAny_bind (slicePart_ ps ?_)
  show wpAny _ _ (if ((-1 : Int) == 0) = true then _ else _) _ _ s
  rw [if_neg (by decide)]
  refine wpAny_bind (slicePart_ pl (wpAny_bind (slicePart_ pu (wpAny_bind (wpAny_pure ?_)))))
  show wpAny _ _ (match Builtin.Slice.sliceAdjust none none (-1) (n : Int) with | (lo, hi) => pure (lo, (-1 : Int), Builtin.Slice.slicePlaces lo hi (-1))) _ _ s
  rw [e1]
  show wpAny _ _ (pure ((n : Int) - 1, (-1 : Int), Builtin.Slice.slicePlaces ((n : Int) - 1) (-1) (-1))) _ _ s
  rw [e2]
  exact wpAny_pure h
theorem get_back {t sl : Addr} {its : Array Value} {vl vu vs : Value} {Q : Value → Shared → Prop} (ht : IsTup s.heap t its) (held : s.heap.IsSliceOf sl vl vu vs) (pl : IsPart vl none) (pu : IsPart vu none) (ps : IsPart vs (some (-1)))
    (h : Q (.ref s.heap.objs.size) { s with heap := s.heap.push { cls := .type "tuple", data := .seq its.toList.reverse.toArray } }) (short : its.size ≤ sizeLine) : wpAny (model prog w) A (getItem (.ref t) (.ref sl)) Q E s := by
  have fits : sizeOk (.seq its.toList.reverse.toArray) := by
    show its.toList.reverse.toArray.size ≤ sizeLine
    simpa using short
  obtain ⟨os, hos, hcs, hds⟩ := id held
  have hTs : s.TypeIs (.ref sl) "slice" := ⟨os, hos, hcs⟩
  unfold getItem
  try with_reducible refine wpAny_holding ?_
  first | refine wpAny_bind (wpAny_pure ?_) | skip
  refine wpAny_bind (wpAny_sequenceKey ht.typeIs (by decide) ?_)
  refine wpAny_bind (wpAny_callSpecial?_slot (name := Str.ofString "__getitem__") ht.typeIs PyProof.Rows.slot_tuple_getitem (wpAny_call_entry PyProof.Rows.slot_tuple_getitem ht.typeIs entry_tuple_getitem ?_ (args_tuple_getitem _ _)))
  show wpAny _ _ (Builtin.Tuple.tupleItemsOf (.ref t) >>= _) _ _ s
  refine wpAny_bind (tupleItemsOf_ ht (wpAny_bind (wpAny_typeOf hTs ?_)))
  rw [if_pos (by decide)]
  refine wpAny_bind (applied_back held pl pu ps ?_)
  show wpAny _ _ (if (((its.size : Int) - 1) == 0 && (-1 : Int) == 1 && its.size == its.size) = true then _ else _) _ _ s
  rw [if_neg (by simp)]
  show wpAny _ _ ((Builtin.Tuple.tupleExact ((List.range its.size).filterMap fun (m : Nat) => its[(((its.size : Int) - 1) + (m : Int) * (-1)).toNat]?).toArray) >>= _) _ _ s
  rw [back_pick]
  first
    | exact wpAny_bind (m := Builtin.Tuple.tupleExact _) (wpAny_newObj_type (wpAny_pure ⟨_, rfl, wpAny_pure h⟩) fits)
    | exact wpAny_bind (m := Builtin.Tuple.tupleExact _) (wpAny_newObj_type (wpAny_bind (wpAny_pure (wpAny_pure ⟨_, rfl, wpAny_pure h⟩))) fits)
end
section
variable {X : Cx}
/-- t[::-1], t a list or a tuple -/
def tBack (K : PySem.W.Frag) (te : TE) : TE := fun σ H Q => te σ H fun x H1 => ∃ a xs, x = .ref a ∧ ((SqL K H1 a xs ∧ ∀ p, H1 p = none → Q (.ref p) (upd H1 p (.lst xs.reverse))) ∨ (SqT K H1 a xs ∧ ∀ p, H1 p = none → Q (.ref p) (upd H1 p (.tup xs.reverse))))
theorem pe_back {e : Expr} {te : TE} {k : Nat} {p1 p2 p3 pos : Pos} (he : PE X e te) : PE X (.Subscript e (.Slice none none (some (.UnaryOp .USub (.Constant (.int 1) k p1) p2)) p3) pos) (tBack X.K te) := by
  refine ⟨fun pins s σ H Q I h => ?_⟩
  refine Subscript_ (thn (he.run pins s σ H _ I h) fun v s1 ⟨x, H1, I1, r1, a, xs, ex, q1⟩ => ?_)
  subst ex
  cases r1
  have step : PO X (some (.UnaryOp .USub (.Constant (.int 1) k p1) p2)) (tPart (tUn (rU fun i => .int (-i)) (tC (.int 1)))) := po_some (pe_un un_neg pe_int)
  refine wpAny_Slice (thn (po_none.run pins s1 σ H1 (fun o H2 => o = none ∧ H2 = H1) I1 ⟨rfl, rfl⟩) fun vl s2 ⟨l, H2, I2, pl, el, e2⟩ => ?_)
  subst el e2
  refine thn (po_none.run pins s2 σ H2 (fun o H3 => o = none ∧ H3 = H2) I2 ⟨rfl, rfl⟩) fun vu s3 ⟨u, H3, I3, pu, eu, e3⟩ => ?_
  subst eu e3
  refine thn (step.run pins s3 σ H3 (fun o H4 => o = some (-1) ∧ H4 = H3) I3 ⟨1, rfl, -1, rfl, rfl, rfl⟩) fun vs s4 ⟨o, H4, I4, ps, eo, e4⟩ => ?_
  subst eo e4
  have I5 : Inv X pins σ H4 { s4 with heap := s4.heap.push { cls := .type "slice", data := .fields #[vl, vu, vs] } } := I4.kept (t' := s4.toks) fun b ob q => Heap.get?_push_of_some _ q
  show wpAny (model X.prog X.w) X.A (subscriptTail e (.Slice none none (some (.UnaryOp .USub (.Constant (.int 1) k p1) p2)) p3) (.ref a) (.ref s4.heap.objs.size)) (EP X pins σ Q) X.xe { s4 with heap := s4.heap.push { cls := .type "slice", data := .fields #[vl, vu, vs] } }
  rcases q1 with ⟨hx, q⟩ | ⟨hx, q⟩
  · obtain ⟨its, r, ht, hz⟩ := I5.list hx
    have hlen := r.length
    refine tail_any (ops := [.ref a, .ref s4.heap.objs.size]) ht.isList.typeIs PySem.slot_list_getitem.lookup (wpAny_getItem_list_slice ht.isList (Heap.IsSliceOf.new _ vl vu vs) pl pu ps (by decide) ?_ (by rw [List.size_toArray]; omega)) (by with_unfolding_all rfl)
    rw [PySem.W.krv_pick]
    refine ⟨.ref _, _, I5.laid (t' := s4.toks) (o := .lst xs.reverse) (fun b ob z => Heap.get?_push_of_some _ z) (Nat.le_refl _) ⟨by rw [List.length_reverse]; exact hz, _, 0, r.reverse, Heap.get?_push_size _ rfl⟩, rfl, q _ (I5.hok.fresh (Nat.le_refl _))⟩
  · obtain ⟨its, r, ht, hz⟩ := I5.tuple hx
    have hlen := r.length
    refine tail_any (ops := [.ref a, .ref s4.heap.objs.size]) ht.typeIs PyProof.Rows.slot_tuple_getitem.lookup (get_back ht (Heap.IsSliceOf.new _ vl vu vs) pl pu ps ?_ (by rw [List.size_toArray]; omega)) (by with_unfolding_all rfl)
    refine ⟨.ref _, _, I5.laid (t' := s4.toks) (o := .tup xs.reverse) (fun b ob z => Heap.get?_push_of_some _ z) (Nat.le_refl _) ⟨by rw [List.length_reverse]; exact hz, _, r.reverse, IsTup.new _ _⟩, rfl, q _ (I5.hok.fresh (Nat.le_refl _))⟩
end
end DL
set_option Elab.async false
set_option linter.all false
set_option maxRecDepth 100000
set_option maxHeartbeats 4000000
namespace DL
open PySem PySem.Spec PyProof.Rows L2

abbrev Ev := List (Option D)
inductive Fl where
  | nx (e : Ev) | ret (d : D) | bk (e : Ev) | ct (e : Ev) | exc (x : Ex) (e : Ev)
abbrev S := Hs → Option (Fl × Hs)

/-! ## what is wanted behind a run -/
section
variable (K : PySem.W.Frag) (mg : Str → Option Value)
def AfterM (W : WX) (σ : L2.St) (m : List Addr) (H : Hp) {α : Type} (r : Option (Except Ex α × Hs)) (Q : α → List Addr → Hs → Hp → Prop) : Prop :=
  match r with
  | some (.ok a, hs') => ∀ m' H', Ext K m H m' H' → HR K mg m' hs' H' → Q a m' hs' H'
  | some (.error x, hs') => ∀ m' H' cls d, Ext K m H m' H' → HR K mg m' hs' H' → RX K mg H' x cls d → W cls d σ H'
  | none => False
def tE (W : WX) (f : Ev → M D) : TE := fun σ H Q => ∃ m ev hs, RS K mg m H ev σ ∧ HR K mg m hs H ∧ AfterM K mg W σ m H (f ev hs) fun d m' _ H' => ∀ v, RV K mg m' H' d v → Q v H'
def tT (W : WX) (f : Ev → M Bool) : TT := fun σ H Q => ∃ m ev hs, RS K mg m H ev σ ∧ HR K mg m hs H ∧ AfterM K mg W σ m H (f ev hs) fun b _ _ H' => Q b H'
def tA (W : WX) (f : Ev → M (List D)) : TA := fun σ H Q => ∃ m ev hs, RS K mg m H ev σ ∧ HR K mg m hs H ∧ AfterM K mg W σ m H (f ev hs) fun ds m' _ H' => ∀ vs, RVs K mg m' H' ds vs → Q vs H'
end
section
variable {K : PySem.W.Frag} {mg : Str → Option Value} {W : WX} {σ : L2.St} {m m1 : List Addr} {H H1 : Hp} {α β : Type}
theorem AfterM.from (e : Ext K m H m1 H1) {r : Option (Except Ex α × Hs)} {Q : α → List Addr → Hs → Hp → Prop} (h : AfterM K mg W σ m H r Q) : AfterM K mg W σ m1 H1 r Q := by
  unfold AfterM at h ⊢
  split
  · exact fun m' H' e' hr => h m' H' (e.trans e') hr
  · exact fun m' H' cls d e' hr q => h m' H' cls d (e.trans e') hr q
  · exact h
theorem AfterM.mono {r : Option (Except Ex α × Hs)} {Q Q' : α → List Addr → Hs → Hp → Prop} (h : AfterM K mg W σ m H r Q)
    (hq : ∀ a m' hs' H', Ext K m H m' H' → HR K mg m' hs' H' → Q a m' hs' H' → Q' a m' hs' H') : AfterM K mg W σ m H r Q' := by
  unfold AfterM at h ⊢
  split
  · exact fun m' H' e' hr => hq _ _ _ _ e' hr (h m' H' e' hr)
  · exact h
  · exact h
theorem AfterM.bind {f : M α} {g : α → M β} {hs : Hs} {Q : β → List Addr → Hs → Hp → Prop} (h : AfterM K mg W σ m H (M.bind f g hs) Q) :
    AfterM K mg W σ m H (f hs) fun a m1 hs1 H1 => AfterM K mg W σ m1 H1 (g a hs1) Q := by
  unfold M.bind at h
  cases e : f hs with
  | none => rw [e] at h; exact h
  | some r =>
    obtain ⟨r, h1⟩ := r
    cases r with
    | ok a =>
      rw [e] at h
      exact fun m' H' e' hr => AfterM.from e' h
    | error x =>
      rw [e] at h
      exact h
theorem AfterM.pure {a : α} {hs : Hs} {Q : α → List Addr → Hs → Hp → Prop} (h : AfterM K mg W σ m H (M.pure a hs) Q) (hr : HR K mg m hs H) : Q a m hs H := h m H .refl hr
theorem AfterM.lift {f : P α} {hs : Hs} {Q : α → List Addr → Hs → Hp → Prop} (h : AfterM K mg W σ m H (M.lift f hs) Q) : ∃ a hs', f hs = some (a, hs') ∧ ∀ m' H', Ext K m H m' H' → HR K mg m' hs' H' → Q a m' hs' H' := by
  unfold M.lift at h
  cases e : f hs with
  | none => rw [e] at h; exact h.elim
  | some r => obtain ⟨a, h1⟩ := r; rw [e] at h; exact ⟨a, h1, rfl, h⟩
end
theorem _root_.L2.PE.imp {X : Cx} {e : Expr} {t t' : TE} (h : PE X e t) (hi : ∀ σ H Q, t' σ H Q → t σ H Q) : PE X e t' := ⟨fun pins s σ H Q I q => h.run pins s σ H Q I (hi σ H Q q)⟩
theorem _root_.L2.PT.imp {X : Cx} {e : Expr} {t t' : TT} (h : PT X e t) (hi : ∀ σ H Q, t' σ H Q → t σ H Q) : PT X e t' := ⟨fun pins s σ H Q I q => h.run pins s σ H Q I (hi σ H Q q)⟩
theorem _root_.L2.PW.imp {X : Cx} {e : Expr} {t t' : TT} (h : PW X e t) (hi : ∀ σ H Q, t' σ H Q → t σ H Q) : PW X e t' := ⟨fun wh pins s σ H Q I q => h.run wh pins s σ H Q I (hi σ H Q q)⟩
theorem _root_.L2.PA.imp {X : Cx} {e : List Expr} {t t' : TA} (h : PA X e t) (hi : ∀ σ H Q, t' σ H Q → t σ H Q) : PA X e t' := ⟨fun ps pins s σ H Q I q => h.run ps pins s σ H Q I (hi σ H Q q)⟩
theorem _root_.L2.PS.imp {X : Cx} {e : Stmt} {t t' : TS} (h : PS X e t) (hi : ∀ D σ H, t' D σ H → t D σ H) : PS X e t' := ⟨fun pins s σ H D I q => h.run pins s σ H D I (hi D σ H q)⟩
theorem _root_.L2.PSs.imp {X : Cx} {e : List Stmt} {t t' : TS} (h : PSs X e t) (hi : ∀ D σ H, t' D σ H → t D σ H) : PSs X e t' := ⟨fun pins s σ H D I q => h.run pins s σ H D I (hi D σ H q)⟩

section
variable {X : Cx} {W : WX}
abbrev DE (X : Cx) (W : WX) (e : Expr) (f : Ev → M D) : Prop := PE X e (tE X.K X.mg W f)
abbrev DT (X : Cx) (W : WX) (e : Expr) (f : Ev → M Bool) : Prop := PT X e (tT X.K X.mg W f)
abbrev DA (X : Cx) (W : WX) (es : List Expr) (f : Ev → M (List D)) : Prop := PA X es (tA X.K X.mg W f)
/-- nothing is claimed of what is stuck -/
theorem de_no {e : Expr} : DE X W e fun _ => M.stuck := ⟨fun _ _ _ _ _ _ ⟨_, _, _, _, _, h⟩ => h.elim⟩
theorem dt_no {e : Expr} : DT X W e fun _ => M.stuck := ⟨fun _ _ _ _ _ _ ⟨_, _, _, _, _, h⟩ => h.elim⟩
theorem da_no {e : List Expr} : DA X W e fun _ => M.stuck := ⟨fun _ _ _ _ _ _ _ ⟨_, _, _, _, _, h⟩ => h.elim⟩

/-! ### constants, names -/
theorem de_const {e : Expr} {d : D} {v : V} (h : PE X e (tC v)) (r : ∀ m H, RV X.K X.mg m H d v) : DE X W e fun _ => M.pure d :=
  h.imp fun σ H Q ⟨m, ev, hs, rs, hr, q⟩ => q.pure hr v (r m H)
def varD (i : Nat) (e : Ev) : M D := match e[i]? with
  | some (some d) => M.pure d
  | _ => M.stuck
theorem de_var {x : Str} {pos : Pos} {i : Nat} (h : PE X (.Name x pos) (tVar i)) : DE X W (.Name x pos) (varD i) := h.imp fun σ H Q ⟨m, ev, hs, rs, hr, q⟩ => by
  unfold varD at q
  cases e : ev[i]? with
  | none => rw [e] at q; exact q.elim
  | some o =>
    cases o with
    | none => rw [e] at q; exact q.elim
    | some d =>
      rw [e] at q
      obtain ⟨v, e1, r⟩ := rs.at_ i d e
      exact ⟨v, e1, q.pure hr v r⟩

/-! ### operators -/
variable {a b c : Expr} {fa fb fc : Ev → M D} {pos : Pos}
def op2 (f : D → D → P D) (fa fb : Ev → M D) : Ev → M D := fun e => M.bind (fa e) fun x => M.bind (fb e) fun y => M.lift (f x y)
theorem op2_ok {f : D → D → P D} {σ : L2.St} {H : Hp} {Q : VK} (h : tE X.K X.mg W (op2 f fa fb) σ H Q) : tOp (rP2 X.K X.mg f) (tE X.K X.mg W fa) (tE X.K X.mg W fb) σ H Q := by
  obtain ⟨m, ev, hs, rs, hr, q⟩ := h
  refine ⟨m, ev, hs, rs, hr, q.bind.mono fun x m1 hs1 H1 e1 hr1 q1 v rv => ?_⟩
  refine ⟨m1, ev, hs1, rs.mono e1, hr1, q1.bind.mono fun y m2 hs2 H2 e2 hr2 q2 w rw => ?_⟩
  obtain ⟨d, hs3, e, k⟩ := q2.lift
  exact ⟨m2, hs2, x, y, d, hs3, hr2, rv.mono e2, rw, e, fun m' H' v e hr r => k m' H' e hr v r⟩
theorem de_bin {op : Operator} (ha : DE X W a fa) (hb : DE X W b fb) : DE X W (.BinOp a op b pos) (op2 (binD op) fa fb) := (pe_op (binD_ok op) ha hb).imp fun _ _ _ h => op2_ok h
theorem de_ix (hu : X.A.units + 65 < cLine) (ha : DE X W a fa) (hb : DE X W b fb) (hs : PlainIx b) : DE X W (.Subscript a b pos) (op2 ixD fa fb) := (pe_ix (ixD_ok hu) ha hb hs).imp fun _ _ _ h => op2_ok h
theorem de_cmp (hu : X.A.units + 65 < cLine) {op : CmpOp} (ha : DE X W a fa) (hb : DE X W b fb) (hm : behindInMarks op b = false) : DE X W (.Compare a [op] [b] pos) (op2 (cmpD op) fa fb) :=
  (pe_cmpR (cmpD_ok hu op) ha hb hm).imp fun _ _ _ h => op2_ok h
def boolOf : D → M Bool
  | .bl b => M.pure b
  | _ => M.stuck
theorem boolOf_ok {K : PySem.W.Frag} {mg : Str → Option Value} {σ : L2.St} {m : List Addr} {H : Hp} {hs : Hs} {d : D} {Q : Bool → List Addr → Hs → Hp → Prop} (h : AfterM K mg W σ m H (boolOf d hs) Q) (hr : HR K mg m hs H) : ∃ b, d = .bl b ∧ Q b m hs H := by
  cases d <;> try exact h.elim
  exact ⟨_, rfl, h.pure hr⟩
def asTest (f : Ev → M D) : Ev → M Bool := fun e => M.bind (f e) boolOf
theorem asTest_ok {f : Ev → M D} {σ : L2.St} {H : Hp} {Q : Bool → Hp → Prop} (h : tT X.K X.mg W (asTest f) σ H Q) : tE X.K X.mg W f σ H fun x H' => ∃ k, x = .bl k ∧ Q k H' := by
  obtain ⟨m, ev, hs, rs, hr, q⟩ := h
  refine ⟨m, ev, hs, rs, hr, q.bind.mono fun x m1 hs1 H1 e1 hr1 q1 v rv => ?_⟩
  obtain ⟨b, rfl, q2⟩ := boolOf_ok q1 hr1
  exact ⟨b, rv_bl rv, q2⟩
theorem dt_cmp (hu : X.A.units + 65 < cLine) {op : CmpOp} (ha : DE X W a fa) (hb : DE X W b fb) (hm : behindInMarks op b = false) : DT X W (.Compare a [op] [b] pos) (asTest (op2 (cmpD op) fa fb)) :=
  (pt_cmpR (cmpD_ok hu op) ha hb hm).imp fun _ _ _ h => by
    have q := asTest_ok h
    exact op2_ok q
/-- a op b op' c -/
def op3 (f g : D → D → P D) (fa fb fc : Ev → M D) : Ev → M D := fun e => M.bind (fa e) fun x => M.bind (fb e) fun y => M.bind (M.lift (f x y)) fun z => M.bind (boolOf z) fun k => if k = true then M.bind (fc e) fun w => M.lift (g y w) else M.pure (.bl false)
theorem op3_ok {f g : D → D → P D} {σ : L2.St} {H : Hp} {Q : VK} (h : tE X.K X.mg W (op3 f g fa fb fc) σ H Q) : tChain (rP2 X.K X.mg f) (rP2 X.K X.mg g) (tE X.K X.mg W fa) (tE X.K X.mg W fb) (tE X.K X.mg W fc) σ H Q := by
  obtain ⟨m, ev, hs, rs, hr, q⟩ := h
  refine ⟨m, ev, hs, rs, hr, q.bind.mono fun x m1 hs1 H1 e1 hr1 q1 v rv => ?_⟩
  refine ⟨m1, ev, hs1, rs.mono e1, hr1, q1.bind.mono fun y m2 hs2 H2 e2 hr2 q2 w rw => ?_⟩
  obtain ⟨z, hs3, e, k⟩ := q2.bind.lift
  refine ⟨m2, hs2, x, y, z, hs3, hr2, rv.mono e2, rw, e, fun m3 H3 v3 e3 hr3 rz => ?_⟩
  obtain ⟨t, rfl, q4⟩ := boolOf_ok (k m3 H3 e3 hr3).bind hr3
  refine ⟨t, rv_bl rz, ?_⟩
  cases t with
  | false =>
    rw [if_neg Bool.false_ne_true] at q4 ⊢
    exact q4.pure hr3 _ mk_bl
  | true =>
    rw [if_pos rfl] at q4 ⊢
    refine ⟨m3, ev, hs3, ((rs.mono e1).mono e2).mono e3, hr3, q4.bind.mono fun u m5 hs5 H5 e5 hr5 q5 v5 r5 => ?_⟩
    obtain ⟨d, hs6, e6, k6⟩ := q5.lift
    exact ⟨m5, hs5, y, u, d, hs6, hr5, (rw.mono e3).mono e5, r5, e6, fun m' H' v e hr r => k6 m' H' e hr v r⟩
theorem de_cmp2 (hu : X.A.units + 65 < cLine) {op op' : CmpOp} (ha : DE X W a fa) (hb : DE X W b fb) (hc : DE X W c fc) (hm : lastMarks [op, op'] [b, c] = false) : DE X W (.Compare a [op, op'] [b, c] pos) (op3 (cmpD op) (cmpD op') fa fb fc) :=
  (pe_chain (cmpD_ok hu op) (cmpD_ok hu op') ha hb hc hm).imp fun _ _ _ h => op3_ok h
theorem dt_cmp2 (hu : X.A.units + 65 < cLine) {op op' : CmpOp} (ha : DE X W a fa) (hb : DE X W b fb) (hc : DE X W c fc) (hm : lastMarks [op, op'] [b, c] = false) : DT X W (.Compare a [op, op'] [b, c] pos) (asTest (op3 (cmpD op) (cmpD op') fa fb fc)) :=
  (pt_chain (cmpD_ok hu op) (cmpD_ok hu op') ha hb hc hm).imp fun _ _ _ h => op3_ok (asTest_ok h)
/-! truth -/
def truM (d : D) : M Bool := fun hs => match truD hs d with
  | some b => some (.ok b, hs)
  | none => none
theorem truM_ok {K : PySem.W.Frag} {mg : Str → Option Value} {σ : L2.St} {m : List Addr} {H : Hp} {hs : Hs} {d : D} {v : V} {Q : Bool → List Addr → Hs → Hp → Prop} (h : AfterM K mg W σ m H (truM d hs) Q) (hr : HR K mg m hs H) (r : RV K mg m H d v) : ∃ b, TruV K v H b ∧ Q b m hs H := by
  unfold truM at h
  cases e : truD hs d with
  | none => rw [e] at h; exact h.elim
  | some b => rw [e] at h; exact ⟨b, truD_ok hr r e, h m H .refl hr⟩
def truth (f : Ev → M D) : Ev → M Bool := fun e => M.bind (f e) truM
theorem dt_truth (ha : DE X W a fa) (he : ∀ whole, isTrue a X.env whole = (do let v ← whole; standAt a.pos; holding [v] (truthy v))) : DT X W a (truth fa) :=
  (pt_truth ha he).imp fun σ H Q ⟨m, ev, hs, rs, hr, q⟩ => ⟨m, ev, hs, rs, hr, q.bind.mono fun x m1 hs1 H1 e1 hr1 q1 v rv => truM_ok q1 hr1 rv⟩
def notM (f : Ev → M Bool) : Ev → M Bool := fun e => M.bind (f e) fun b => M.pure (!b)
theorem dt_not {f : Ev → M Bool} (ha : DT X W a f) : DT X W (.UnaryOp .Not a pos) (notM f) :=
  (pt_not ha).imp fun σ H Q ⟨m, ev, hs, rs, hr, q⟩ => ⟨m, ev, hs, rs, hr, q.bind.mono fun x m1 hs1 H1 e1 hr1 q1 => q1.pure hr1⟩
def notV (f : Ev → M D) : Ev → M D := fun e => M.bind (f e) fun x => M.bind (truM x) fun b => M.pure (.bl (!b))
theorem de_not (ha : DE X W a fa) : DE X W (.UnaryOp .Not a pos) (notV fa) :=
  (pe_notT ha).imp fun σ H Q ⟨m, ev, hs, rs, hr, q⟩ => ⟨m, ev, hs, rs, hr, q.bind.mono fun x m1 hs1 H1 e1 hr1 q1 v rv => by
    obtain ⟨b, tb, q2⟩ := truM_ok q1.bind hr1 rv
    exact ⟨b, tb, q2.pure hr1 _ mk_bl⟩⟩
def negD : D → M D
  | .int i => M.pure (.int (-i))
  | _ => M.stuck
def negV (f : Ev → M D) : Ev → M D := fun e => M.bind (f e) negD
theorem de_neg (ha : DE X W a fa) : DE X W (.UnaryOp .USub a pos) (negV fa) :=
  (pe_un un_neg ha).imp fun σ H Q ⟨m, ev, hs, rs, hr, q⟩ => ⟨m, ev, hs, rs, hr, q.bind.mono fun x m1 hs1 H1 e1 hr1 q1 v rv => by
    cases x <;> try exact q1.elim
    exact ⟨_, rv_int rv, q1.pure hr1 _ mk_int⟩⟩
variable {ft fu : Ev → M Bool}
def ifV {α : Type} (ft : Ev → M Bool) (fa fb : Ev → M α) : Ev → M α := fun e => M.bind (ft e) fun k => if k = true then fa e else fb e
theorem de_if (hc : DT X W c ft) (ha : DE X W a fa) (hb : DE X W b fb) : DE X W (.IfExp c a b pos) (ifV ft fa fb) :=
  (pe_ifExp hc ha hb).imp fun σ H Q ⟨m, ev, hs, rs, hr, q⟩ => ⟨m, ev, hs, rs, hr, q.bind.mono fun k m1 hs1 H1 e1 hr1 q1 => by
    cases k with
    | true => rw [if_pos rfl] at q1 ⊢; exact ⟨m1, ev, hs1, rs.mono e1, hr1, q1⟩
    | false => rw [if_neg Bool.false_ne_true] at q1 ⊢; exact ⟨m1, ev, hs1, rs.mono e1, hr1, q1⟩⟩
/-! and, or: as tests -/
def andM (f g : Ev → M Bool) : Ev → M Bool := fun e => M.bind (f e) fun k => if k = true then g e else M.pure false
def orM (f g : Ev → M Bool) : Ev → M Bool := fun e => M.bind (f e) fun k => if k = true then M.pure true else g e
abbrev DW (X : Cx) (W : WX) (e : Expr) (f : Ev → M Bool) : Prop := PW X e (tT X.K X.mg W f)
variable {rest : List Expr}
theorem dw_and (ha : DT X W a ft) (hb : DW X W (.BoolOp .And (b :: rest) pos) fu) : DW X W (.BoolOp .And (a :: b :: rest) pos) (andM ft fu) :=
  (pw_and ha hb).imp fun σ H Q ⟨m, ev, hs, rs, hr, q⟩ => ⟨m, ev, hs, rs, hr, q.bind.mono fun k m1 hs1 H1 e1 hr1 q1 => by
    cases k with
    | true => rw [if_pos rfl] at q1 ⊢; exact ⟨m1, ev, hs1, rs.mono e1, hr1, q1⟩
    | false => rw [if_neg Bool.false_ne_true] at q1 ⊢; exact q1.pure hr1⟩
theorem dw_or (ha : DT X W a ft) (hb : DW X W (.BoolOp .Or (b :: rest) pos) fu) : DW X W (.BoolOp .Or (a :: b :: rest) pos) (orM ft fu) :=
  (pw_or ha hb).imp fun σ H Q ⟨m, ev, hs, rs, hr, q⟩ => ⟨m, ev, hs, rs, hr, q.bind.mono fun k m1 hs1 H1 e1 hr1 q1 => by
    cases k with
    | true => rw [if_pos rfl] at q1 ⊢; exact q1.pure hr1
    | false => rw [if_neg Bool.false_ne_true] at q1 ⊢; exact ⟨m1, ev, hs1, rs.mono e1, hr1, q1⟩⟩
/-! .. as values -/
def andV (f g : Ev → M D) : Ev → M D := fun e => M.bind (f e) fun x => M.bind (truM x) fun k => if k = true then g e else M.pure x
def orV (f g : Ev → M D) : Ev → M D := fun e => M.bind (f e) fun x => M.bind (truM x) fun k => if k = true then M.pure x else g e
theorem de_and (ha : DE X W a fa) (hb : DE X W (.BoolOp .And (b :: rest) pos) fb) : DE X W (.BoolOp .And (a :: b :: rest) pos) (andV fa fb) :=
  (pe_andT ha hb).imp fun σ H Q ⟨m, ev, hs, rs, hr, q⟩ => ⟨m, ev, hs, rs, hr, q.bind.mono fun x m1 hs1 H1 e1 hr1 q1 v rv => by
    obtain ⟨k, tk, q2⟩ := truM_ok q1.bind hr1 rv
    refine ⟨k, tk, ?_⟩
    cases k with
    | true => rw [if_pos rfl] at q2 ⊢; exact ⟨m1, ev, hs1, rs.mono e1, hr1, q2⟩
    | false => rw [if_neg Bool.false_ne_true] at q2 ⊢; exact q2.pure hr1 _ rv⟩
theorem de_or (ha : DE X W a fa) (hb : DE X W (.BoolOp .Or (b :: rest) pos) fb) : DE X W (.BoolOp .Or (a :: b :: rest) pos) (orV fa fb) :=
  (pe_orT ha hb).imp fun σ H Q ⟨m, ev, hs, rs, hr, q⟩ => ⟨m, ev, hs, rs, hr, q.bind.mono fun x m1 hs1 H1 e1 hr1 q1 v rv => by
    obtain ⟨k, tk, q2⟩ := truM_ok q1.bind hr1 rv
    refine ⟨k, tk, ?_⟩
    cases k with
    | true => rw [if_pos rfl] at q2 ⊢; exact q2.pure hr1 _ rv
    | false => rw [if_neg Bool.false_ne_true] at q2 ⊢; exact ⟨m1, ev, hs1, rs.mono e1, hr1, q2⟩⟩

/-! ### lists of arguments, displays -/
variable {es : List Expr} {fs : Ev → M (List D)}
def consM (f : Ev → M D) (g : Ev → M (List D)) : Ev → M (List D) := fun e => M.bind (f e) fun x => M.bind (g e) fun xs => M.pure (x :: xs)
theorem da_nil : DA X W [] fun _ => M.pure [] := pa_nil.imp fun σ H Q ⟨m, ev, hs, rs, hr, q⟩ => q.pure hr _ (RVs.nil_iff.mpr rfl)
theorem da_cons (ha : DE X W a fa) (hr : DA X W es fs) (hs : starEach (a :: es) X.env = (false, eval a X.env) :: starEach es X.env) : DA X W (a :: es) (consM fa fs) :=
  (pa_cons ha hr hs).imp fun σ H Q ⟨m, ev, hs, rs, hr, q⟩ => ⟨m, ev, hs, rs, hr, q.bind.mono fun x m1 hs1 H1 e1 hr1 q1 v rv => ⟨m1, ev, hs1, rs.mono e1, hr1, q1.bind.mono fun xs m2 hs2 H2 e2 hr2 q2 vs rvs => q2.pure hr2 _ (RVs.cons (rv.mono e2) rvs)⟩⟩
def tupM (f : Ev → M (List D)) : Ev → M D := fun e => M.bind (f e) fun xs => if xs.length ≤ sizeLine then M.pure (.tup xs) else M.stuck
def lstM (f : Ev → M (List D)) : Ev → M D := fun e => M.bind (f e) fun xs => if xs.length ≤ sizeLine then M.lift (newL xs) else M.stuck
theorem de_tup {k : Nat} (h : DA X W es fs) : DE X W (.Tuple es k pos) (tupM fs) :=
  (pe_tup h).imp fun σ H Q ⟨m, ev, hs, rs, hr, q⟩ => ⟨m, ev, hs, rs, hr, q.bind.mono fun xs m1 hs1 H1 e1 hr1 q1 vs rvs => by
    split at q1
    · refine ⟨by rw [← rvs.length]; assumption, fun p hp => ?_⟩
      exact q1 m1 _ (Ext.upd_new hp) (hr1.upd_new hp) _ (mk_tup (SqT.of upd_same) (rvs.mono (Ext.upd_new hp)))
    · exact q1.elim⟩
theorem de_lst (h : DA X W es fs) : DE X W (.List es pos) (lstM fs) :=
  (pe_lst h).imp fun σ H Q ⟨m, ev, hs, rs, hr, q⟩ => ⟨m, ev, hs, rs, hr, q.bind.mono fun xs m1 hs1 H1 e1 hr1 q1 vs rvs => by
    split at q1
    · refine ⟨by rw [← rvs.length]; assumption, fun p hp => ?_⟩
      obtain ⟨d, hs2, e, k⟩ := q1.lift
      cases e
      exact Bk.lst (Q := Q) (fun m' H' v e hr r => k m' H' e hr v r) hr1 rvs hp
    · exact q1.elim⟩

/-! ### slices -/
abbrev DO (X : Cx) (W : WX) (e : Option Expr) (f : Ev → M (Option Int)) : Prop := PO X e (fun σ H Q => ∃ m ev hs, RS X.K X.mg m H ev σ ∧ HR X.K X.mg m hs H ∧ AfterM X.K X.mg W σ m H (f ev hs) fun o _ _ H' => Q o H')
theorem _root_.L2.PO.imp {X : Cx} {e : Option Expr} {t t' : TO} (h : PO X e t) (hi : ∀ σ H Q, t' σ H Q → t σ H Q) : PO X e t' := ⟨fun pins s σ H Q I q => h.run pins s σ H Q I (hi σ H Q q)⟩
def partD : D → M (Option Int)
  | .int i => M.pure (some i)
  | _ => M.stuck
theorem do_none : DO X W none fun _ => M.pure none := L2.PO.imp po_none fun σ H Q ⟨m, ev, hs, rs, hr, q⟩ => q.pure hr
theorem do_some (ha : DE X W a fa) : DO X W (some a) fun e => M.bind (fa e) partD :=
  L2.PO.imp (po_some ha) fun σ H Q ⟨m, ev, hs, rs, hr, q⟩ => ⟨m, ev, hs, rs, hr, q.bind.mono fun x m1 hs1 H1 e1 hr1 q1 v rv => by
    cases x <;> try exact q1.elim
    exact ⟨_, rv_int rv, q1.pure hr1⟩⟩
def sliceM (fa : Ev → M D) (fl fh : Ev → M (Option Int)) : Ev → M D := fun e => M.bind (fa e) fun x => M.bind (fl e) fun lo => M.bind (fh e) fun hi => M.lift (sliceD x lo hi)
theorem de_slice {lo hi : Option Expr} {fl fh : Ev → M (Option Int)} {p2 : Pos} (ha : DE X W a fa) (hl : DO X W lo fl) (hh : DO X W hi fh) : DE X W (.Subscript a (.Slice lo hi none p2) pos) (sliceM fa fl fh) :=
  (pe_slice sliceD_ok ha hl hh).imp fun σ H Q ⟨m, ev, hs, rs, hr, q⟩ => ⟨m, ev, hs, rs, hr, q.bind.mono fun x m1 hs1 H1 e1 hr1 q1 v rv => ⟨m1, ev, hs1, rs.mono e1, hr1, q1.bind.mono fun l m2 hs2 H2 e2 hr2 q2 =>
    ⟨m2, ev, hs2, (rs.mono e1).mono e2, hr2, q2.bind.mono fun u m3 hs3 H3 e3 hr3 q3 => by
      obtain ⟨d, hs4, e, k⟩ := q3.lift
      exact ⟨m3, hs3, x, d, hs4, hr3, (rv.mono e2).mono e3, e, fun m' H' v e hr r => k m' H' e hr v r⟩⟩⟩⟩
/-- xs[::-1] -/
def revD (d : D) : P D := fun hs => match d with
  | .tup xs => some (.tup xs.reverse, hs)
  | d => match listOf hs d with
    | some xs => newL xs.reverse hs
    | none => none
def revM (fa : Ev → M D) : Ev → M D := fun e => M.bind (fa e) fun x => M.lift (revD x)
theorem RVs.reverse {K : PySem.W.Frag} {mg : Str → Option Value} {m : List Addr} {H : Hp} : ∀ {xs : List D} {vs : List V}, RVs K mg m H xs vs → RVs K mg m H xs.reverse vs.reverse
  | [], _, h => by rw [RVs.nil_iff] at h; subst h; exact RVs.nil_iff.mpr rfl
  | x :: xs, _, h => by
    obtain ⟨v, r, rfl, h1, h2⟩ := RVs.cons_iff.mp h
    rw [List.reverse_cons, List.reverse_cons]
    exact (RVs.reverse h2).append (RVs.cons h1 (RVs.nil_iff.mpr rfl))
theorem de_rev {k : Nat} {p1 p2 p3 : Pos} (ha : DE X W a fa) : DE X W (.Subscript a (.Slice none none (some (.UnaryOp .USub (.Constant (.int 1) k p1) p2)) p3) pos) (revM fa) :=
  (pe_back ha).imp fun σ H Q ⟨m, ev, hs, rs, hr, q⟩ => ⟨m, ev, hs, rs, hr, q.bind.mono fun x m1 hs1 H1 e1 hr1 q1 v rv => by
    obtain ⟨d, hs4, e, k⟩ := q1.lift
    unfold revD at e
    split at e
    · cases e
      obtain ⟨p, ws, rfl, h1, q2⟩ := rv_tup rv
      exact ⟨p, ws, rfl, .inr ⟨h1, fun l hl => Bk.tup (Q := Q) (fun m' H' v e hr r => k m' H' e hr v r) hr1 q2.reverse hl⟩⟩
    · split at e
      · rename_i xs el
        cases e
        obtain ⟨p, ws, rfl, h1, q2⟩ := list_of hr1 rv el
        exact ⟨p, ws, rfl, .inl ⟨h1, fun l hl => Bk.lst (Q := Q) (fun m' H' v e hr r => k m' H' e hr v r) hr1 q2.reverse hl⟩⟩
      · cases e⟩

/-! ### calls -/
def callM (f : List D → P D) (fs : Ev → M (List D)) : Ev → M D := fun e => M.bind (fs e) fun xs => M.lift (f xs)
theorem callM_ok {f : List D → P D} {σ : L2.St} {H : Hp} {Q : VK} (h : tE X.K X.mg W (callM f fs) σ H Q) : tCB (rPn X.K X.mg f) (tA X.K X.mg W fs) σ H Q := by
  obtain ⟨m, ev, hs, rs, hr, q⟩ := h
  refine ⟨m, ev, hs, rs, hr, q.bind.mono fun xs m1 hs1 H1 e1 hr1 q1 vs rvs => ?_⟩
  obtain ⟨d, hs2, e, k⟩ := q1.lift
  exact ⟨m1, hs1, xs, d, hs2, hr1, rvs, e, fun m' H' v e hr r => k m' H' e hr v r⟩
/-- a def's promise -/
def spD (K : PySem.W.Frag) (mg : Str → Option Value) (n : Nat) (f : List D → M D) : Sp := fun vs H Q E => ∃ m hs ds, HR K mg m hs H ∧ RVs K mg m H ds vs ∧ ds.length = n ∧ AfterM K mg (fun cls d _ H' => E cls d H') [] m H (f ds hs) fun d m' _ H' => ∀ v, RV K mg m' H' d v → Q v H'
def callF (n : Nat) (f : List D → M D) (fs : Ev → M (List D)) : Ev → M D := fun e => M.bind (fs e) fun xs => if xs.length = n then f xs else M.stuck
theorem AfterM.wish {K : PySem.W.Frag} {mg : Str → Option Value} {W W' : WX} {σ σ' : L2.St} {m : List Addr} {H : Hp} {α : Type} {r : Option (Except Ex α × Hs)} {Q : α → List Addr → Hs → Hp → Prop} (h : AfterM K mg W σ m H r Q) (hw : ∀ cls d H', W cls d σ H' → W' cls d σ' H') : AfterM K mg W' σ' m H r Q := by
  unfold AfterM at h ⊢
  split
  · exact h
  · exact fun m' H' cls d e hr q => hw _ _ _ (h m' H' cls d e hr q)
  · exact h
theorem de_call {x : Str} {p : Pos} {n k : Nat} {f : List D → M D} {g : Addr} {fd : FuncData} {ps : List Str} (F : FnG X.prog X.w X.K X.mg X.base (L2.CX X.prog X.w) k g fd ps (spD X.K X.mg n f)) (gd : X.A.guards = some []) (hr : Room k X.A) (hg : Gl X x)
    (hm : X.mg x = some (.ref g)) (hk : PySem.W.keepIn X.K (.ref g) = true) (hb : Binds X.K fd ps []) (tk : Takes X W) (ha : DA X W (a :: es) fs) (hdb : (x == ("__debug__" : Str)) = false)
    (he : starEach (a :: es) X.env = (false, eval a X.env) :: starEach es X.env) (hpl : (backTo pos (starEach es X.env)).any (·.1) = false) : DE X W (.Call (.Name x p) (a :: es) [] pos) (callF n f fs) := by
  refine ⟨fun pins s σ H Q I ⟨m, ev, hs, rs, hrr, q⟩ => wpAny_Call_Name_kw (ld_glob I hg hm (PySem.W.callWith_K (h₀ := X.base) I.ok.mod.kin hk (thn (ha.run pos pins s σ H (fun vs H1 => spD X.K X.mg n f vs H1 Q (fun cls d H' => W cls d σ H')) I
    ⟨m, ev, hs, rs, hrr, q.bind.mono fun xs m1 hs1 H1 e1 hr1 q1 vs rvs => ?_⟩) fun us s1 ⟨vs, H1, I1, r, q⟩ => ⟨I1.kIn, runG (E := WE W) F gd hr hb (passAt tk σ) I1 r q⟩) he hpl) hdb)⟩
  split at q1
  · rename_i hn
    exact ⟨m1, hs1, xs, hr1, rvs, hn, q1.wish fun _ _ _ h => h⟩
  · exact q1.elim
theorem de_call0 {x : Str} {p : Pos} {k : Nat} {f : List D → M D} {g : Addr} {fd : FuncData} {ps : List Str} (F : FnG X.prog X.w X.K X.mg X.base (L2.CX X.prog X.w) k g fd ps (spD X.K X.mg 0 f)) (gd : X.A.guards = some []) (hr : Room k X.A) (hg : Gl X x)
    (hm : X.mg x = some (.ref g)) (hk : PySem.W.keepIn X.K (.ref g) = true) (hb : Binds X.K fd ps []) (tk : Takes X W) (hdb : (x == ("__debug__" : Str)) = false) : DE X W (.Call (.Name x p) [] [] pos) (fun _ => f []) := by
  refine ⟨fun pins s σ H Q I ⟨m, ev, hs, rs, hrr, q⟩ => ?_⟩
  refine wpAny_Call_Name_kw (ld_glob I hg hm ?_ hdb)
  refine PySem.W.callWith_K0 I.kIn hk ?_
  exact runG (E := WE W) (us := []) (vs := []) F gd hr hb (passAt tk σ) I .nil ⟨m, hs, [], hrr, RVs.nil_iff.mpr rfl, rfl, q.wish fun _ _ _ h => h⟩
end
end DL
set_option Elab.async false
set_option linter.all false
set_option maxRecDepth 100000
set_option maxHeartbeats 4000000
namespace DL
open PySem PySem.Spec PyProof.Rows L2

/-! ## syntax that plain rules take -/
def notStar : Expr → Bool
  | .Starred .. => false
  | _ => true
def plainArgs : List Expr → Bool
  | [] => true
  | e :: es => notStar e && plainArgs es
theorem star_cons {e : Expr} {es : List Expr} {env : Env} (h : notStar e = true) : starEach (e :: es) env = (false, eval e env) :: starEach es env := by
  cases e <;> first | rfl | cases h
theorem any_plain {pos : Pos} {env : Env} : ∀ {es : List Expr}, plainArgs es = true → (backTo pos (starEach es env)).any (·.1) = false
  | [], _ => rfl
  | e :: es, h => by
    simp only [plainArgs, Bool.and_eq_true] at h
    rw [star_cons h.1]
    have ih := any_plain (pos := pos) (env := env) h.2
    simpa [backTo] using ih
theorem all_plain {pos : Pos} {env : Env} : ∀ {es : List Expr}, plainArgs es = true → (backTo pos (starEach es env)).all (fun x => !x.1) = true
  | [], _ => rfl
  | e :: es, h => by
    simp only [plainArgs, Bool.and_eq_true] at h
    rw [star_cons h.1]
    have ih := all_plain (pos := pos) (env := env) h.2
    simpa [backTo] using ih
def plainBase : Expr → Bool
  | .Call (.Name _ _) [] [] _ => false
  | _ => true
theorem base_plain {o : Expr} {f : Str} {env : Env} (h : plainBase o = true) : attributeBase o f env (eval o env) = eval o env := by
  unfold attributeBase
  split
  · simp [plainBase] at h
  · rfl
def plainIx : Expr → Bool
  | .Slice .. => false
  | _ => true
theorem ix_plain {b : Expr} (h : plainIx b = true) : PlainIx b := fun o i => by
  cases b <;> first | rfl | cases h
def plainMark : CmpOp → Expr → Bool
  | .In, .Set .. => false
  | .NotIn, .Set .. => false
  | _, _ => true
theorem mark_plain {op : CmpOp} {b : Expr} (h : plainMark op b = true) : behindInMarks op b = false := by
  by_cases h1 : op = .In
  · subst h1; cases b <;> first | rfl | cases h
  · by_cases h2 : op = .NotIn
    · subst h2; cases b <;> first | rfl | cases h
    · exact nobehind b h1 h2
theorem marks_plain {op op' : CmpOp} {b c : Expr} (h : plainMark op b = true) (h' : plainMark op' c = true) : lastMarks [op, op'] [b, c] = false := by
  have e := mark_plain h'
  simp [lastMarks, e]

/-! ## what is wanted behind a statement -/
section
variable (K : PySem.W.Frag) (mg : Str → Option Value)
def AfterS (W : WX) (m : List Addr) (H : Hp) (r : Option (Fl × Hs)) (D : Ends) : Prop :=
  match r with
  | some (.nx e, hs') => ∀ m' H' σ', Ext K m H m' H' → HR K mg m' hs' H' → RS K mg m' H' e σ' → D.nx σ' H'
  | some (.bk e, hs') => ∀ m' H' σ', Ext K m H m' H' → HR K mg m' hs' H' → RS K mg m' H' e σ' → D.bk σ' H'
  | some (.ct e, hs') => ∀ m' H' σ', Ext K m H m' H' → HR K mg m' hs' H' → RS K mg m' H' e σ' → D.ct σ' H'
  | some (.ret d, hs') => ∀ m' H' v, Ext K m H m' H' → HR K mg m' hs' H' → RV K mg m' H' d v → D.rt v H'
  | some (.exc x e, hs') => ∀ m' H' σ' cls d, Ext K m H m' H' → HR K mg m' hs' H' → RS K mg m' H' e σ' → RX K mg H' x cls d → W cls d σ' H'
  | none => False
def tS (W : WX) (g : Ev → S) : TS := fun D σ H => ∃ m ev hs, RS K mg m H ev σ ∧ HR K mg m hs H ∧ AfterS K mg W m H (g ev hs) D
end
section
variable {K : PySem.W.Frag} {mg : Str → Option Value} {W : WX} {σ : L2.St} {m m1 : List Addr} {H H1 : Hp} {α : Type}
theorem AfterS.from (e : Ext K m H m1 H1) {r : Option (Fl × Hs)} {D : Ends} (h : AfterS K mg W m H r D) : AfterS K mg W m1 H1 r D := by
  unfold AfterS at h ⊢
  split
  · exact fun m' H' σ' e' => h m' H' σ' (e.trans e')
  · exact fun m' H' σ' e' => h m' H' σ' (e.trans e')
  · exact fun m' H' σ' e' => h m' H' σ' (e.trans e')
  · exact fun m' H' σ' e' => h m' H' σ' (e.trans e')
  · exact fun m' H' σ' cls d e' => h m' H' σ' cls d (e.trans e')
  · exact h
/-- an expression, then on -/
def exprS (f : Ev → M α) (k : α → Ev → S) : Ev → S := fun e hs => match f e hs with
  | some (.ok a, h1) => k a e h1
  | some (.error x, h1) => some (.exc x e, h1)
  | none => none
theorem AfterS.expr {f : Ev → M α} {k : α → Ev → S} {e : Ev} {hs : Hs} {D : Ends} (rs : RS K mg m H e σ) (h : AfterS K mg W m H (exprS f k e hs) D) :
    AfterM K mg W σ m H (f e hs) fun a m1 hs1 H1 => AfterS K mg W m1 H1 (k a e hs1) D := by
  unfold exprS at h
  cases q : f e hs with
  | none => rw [q] at h; exact h.elim
  | some r =>
    obtain ⟨r, h1⟩ := r
    cases r with
    | ok a => rw [q] at h; exact fun m' H' e' hr => AfterS.from e' h
    | error x => rw [q] at h; exact fun m' H' cls d e' hr rx => h m' H' σ cls d e' hr (rs.mono e') rx
def seqS (g1 g2 : Ev → S) : Ev → S := fun e hs => match g1 e hs with
  | some (.nx e1, h1) => g2 e1 h1
  | r => r
theorem AfterS.seq {g1 g2 : Ev → S} {e : Ev} {hs : Hs} {D : Ends} (h : AfterS K mg W m H (seqS g1 g2 e hs) D) : AfterS K mg W m H (g1 e hs) { D with nx := tS K mg W g2 D } := by
  unfold seqS at h
  cases q : g1 e hs with
  | none => rw [q] at h; exact h
  | some r =>
    obtain ⟨r, h1⟩ := r
    cases r with
    | nx e1 => rw [q] at h; exact fun m' H' σ' e' hr rs => ⟨m', e1, h1, rs, hr, AfterS.from e' h⟩
    | _ => rw [q] at h; exact h
end
section
variable {X : Cx} {W : WX}
abbrev DS (X : Cx) (W : WX) (s : Stmt) (g : Ev → S) : Prop := PS X s (tS X.K X.mg W g)
abbrev DSs (X : Cx) (W : WX) (s : List Stmt) (g : Ev → S) : Prop := PSs X s (tS X.K X.mg W g)
theorem ds_no {s : Stmt} : DS X W s fun _ _ => none := ⟨fun _ _ _ _ _ _ ⟨_, _, _, _, _, h⟩ => h.elim⟩
theorem dss_no {s : List Stmt} : DSs X W s fun _ _ => none := ⟨fun _ _ _ _ _ _ ⟨_, _, _, _, _, h⟩ => h.elim⟩
def nextS : Ev → S := fun e hs => some (.nx e, hs)
theorem AfterS.next {K : PySem.W.Frag} {mg : Str → Option Value} {σ : L2.St} {m : List Addr} {H : Hp} {e : Ev} {hs : Hs} {D : Ends} (h : AfterS K mg W m H (nextS e hs) D) (hr : HR K mg m hs H) (rs : RS K mg m H e σ) : D.nx σ H := h m H σ .refl hr rs
variable {st : Stmt} {sts a b : List Stmt} {g g1 g2 : Ev → S} {e c : Expr} {fe : Ev → M D} {ft : Ev → M Bool} {pos : Pos}
theorem dss_nil : DSs X W [] nextS := pss_nil.imp fun D σ H ⟨m, ev, hs, rs, hr, q⟩ => q.next hr rs
theorem dss_cons (h1 : DS X W st g1) (h2 : DSs X W sts g2) : DSs X W (st :: sts) (seqS g1 g2) := (pss_cons h1 h2).imp fun D σ H ⟨m, ev, hs, rs, hr, q⟩ => ⟨m, ev, hs, rs, hr, q.seq⟩
theorem ds_pass : DS X W (.Pass pos) nextS := ps_pass.imp fun D σ H ⟨m, ev, hs, rs, hr, q⟩ => q.next hr rs
theorem ds_break : DS X W (.Break pos) fun e hs => some (.bk e, hs) := ps_break.imp fun D σ H ⟨m, ev, hs, rs, hr, q⟩ => q m H σ .refl hr rs
theorem ds_continue : DS X W (.Continue pos) fun e hs => some (.ct e, hs) := ps_continue.imp fun D σ H ⟨m, ev, hs, rs, hr, q⟩ => q m H σ .refl hr rs
def retS (f : Ev → M D) : Ev → S := exprS f fun d _ hs => some (.ret d, hs)
theorem ds_ret (he : DE X W e fe) : DS X W (.Return (some e) pos) (retS fe) := (ps_ret he).imp fun D σ H ⟨m, ev, hs, rs, hr, q⟩ => ⟨m, ev, hs, rs, hr, (q.expr rs).mono fun d m1 hs1 H1 e1 hr1 q1 v rv => q1 m1 H1 v .refl hr1 rv⟩
theorem ds_retN : DS X W (.Return none pos) fun _ hs => some (.ret .non, hs) := ps_retN.imp fun D σ H ⟨m, ev, hs, rs, hr, q⟩ => q m H .non .refl hr mk_non
def dropS (f : Ev → M D) : Ev → S := exprS f fun _ => nextS
theorem ds_expr (he : DE X W e fe) (hs : swapsWith e none pos.line X.env = pure false) : DS X W (.Expr e pos) (dropS fe) := (ps_expr he hs).imp fun D σ H ⟨m, ev, hs, rs, hr, q⟩ => ⟨m, ev, hs, rs, hr, (q.expr rs).mono fun d m1 hs1 H1 e1 hr1 q1 v rv => q1.next hr1 (rs.mono e1)⟩
def ifS (f : Ev → M Bool) (g1 g2 : Ev → S) : Ev → S := exprS f fun k => if k = true then g1 else g2
theorem ds_if (hc : DT X W c ft) (ha : DSs X W a g1) (hb : DSs X W b g2) : DS X W (.If c a b pos) (ifS ft g1 g2) := (ps_if hc ha hb).imp fun D σ H ⟨m, ev, hs, rs, hr, q⟩ => ⟨m, ev, hs, rs, hr, (q.expr rs).mono fun k m1 hs1 H1 e1 hr1 q1 => by
  cases k with
  | true => exact ⟨m1, ev, hs1, rs.mono e1, hr1, q1⟩
  | false => exact ⟨m1, ev, hs1, rs.mono e1, hr1, q1⟩⟩

/-! ### targets -/
inductive Tg where
  | one (i : Nat) | many (is : List Nat)
def sets (e : Ev) : List Nat → List D → Ev
  | i :: is, d :: ds => sets (e.set i (some d)) is ds
  | _, _ => e
def setsV (σ : L2.St) : List Nat → List V → L2.St
  | i :: is, v :: vs => setsV (σ.set i (some v)) is vs
  | _, _ => σ
def asg (t : Tg) (d : D) (e : Ev) : Option Ev := match t, d with
  | .one i, d => some (e.set i (some d))
  | .many is, .tup ds => if is.length = ds.length then some (sets e is ds) else none
  | .many _, _ => none
def Tg.slots : Tg → List Nat
  | .one i => [i]
  | .many is => is
/-- a store, by slots -/
def gD (K : PySem.W.Frag) (mg : Str → Option Value) (t : Tg) : TG := fun v σ H Q => ∃ m ev d e2, RS K mg m H ev σ ∧ RV K mg m H d v ∧ asg t d ev = some e2 ∧ ∀ is vs, t.slots = is → RS K mg m H e2 (setsV σ is vs) → Q (setsV σ is vs) H
theorem RS.set {K : PySem.W.Frag} {mg : Str → Option Value} {m : List Addr} {H : Hp} {e : Ev} {σ : L2.St} {d : D} {v : V} (h : RS K mg m H e σ) (r : RV K mg m H d v) (i : Nat) : RS K mg m H (e.set i (some d)) (σ.set i (some v)) := by
  refine ⟨by simp [h.len], fun j c q => ?_⟩
  by_cases hj : i = j
  · subst hj
    by_cases hl : i < e.length
    · rw [List.getElem?_set_self hl] at q
      cases q
      exact ⟨v, by rw [List.getElem?_set_self (by rw [← h.len]; exact hl)], r⟩
    · rw [List.getElem?_eq_none (by simpa using hl)] at q; cases q
  · rw [List.getElem?_set_ne hj] at q
    obtain ⟨w, h1, h2⟩ := h.at_ j c q
    exact ⟨w, by rw [List.getElem?_set_ne hj]; exact h1, h2⟩
theorem RS.sets {K : PySem.W.Frag} {mg : Str → Option Value} {m : List Addr} {H : Hp} : ∀ {is : List Nat} {ds : List D} {vs : List V} {e : Ev} {σ : L2.St}, RS K mg m H e σ → RVs K mg m H ds vs → RS K mg m H (sets e is ds) (setsV σ is vs)
  | [], [], _, _, _, h, r => by rw [RVs.nil_iff] at r; subst r; exact h
  | [], d :: ds, _, _, _, h, r => by obtain ⟨v, w, rfl, _, _⟩ := RVs.cons_iff.mp r; exact h
  | i :: is, [], _, _, _, h, r => by rw [RVs.nil_iff] at r; subst r; exact h
  | i :: is, d :: ds, _, e, σ, h, r => by
    obtain ⟨v, w, rfl, r1, r2⟩ := RVs.cons_iff.mp r
    show RS K mg m H (DL.sets (e.set i (some d)) is ds) (setsV (σ.set i (some v)) is w)
    exact RS.sets (h.set r1 i) r2
theorem each_len {env : Env} : ∀ {es : List Expr}, (assignEach es env).length = es.length
  | [] => rfl
  | e :: es => by cases e <;> simp [assignEach, each_len (es := es)]
theorem each_plain {env : Env} : ∀ {es : List Expr}, plainArgs es = true → (assignEach es env).findIdx? (·.1) = none
  | [], _ => rfl
  | e :: es, h => by
    simp only [plainArgs, Bool.and_eq_true] at h
    have ih := each_plain (env := env) h.2
    cases e <;> first | (simp [notStar] at h; done) | (simp only [assignEach, List.findIdx?_cons, ih]; rfl)
/-- a name's place, where it may be stored -/
def gNames : List Nat → TGs
  | [] => gNil
  | i :: is => gCons (gName i) (gNames is)
theorem gNames_ok : ∀ {is : List Nat} {vs : List V} {σ : L2.St} {H : Hp} {Q : L2.St → Hp → Prop}, is.length = vs.length → Q (setsV σ is vs) H → gNames is vs σ H Q
  | [], [], _, _, _, _, q => ⟨rfl, q⟩
  | [], _ :: _, _, _, _, h, _ => by simp at h
  | _ :: _, [], _, _, _, h, _ => by simp at h
  | i :: is, v :: vs, σ, H, Q, h, q => ⟨v, vs, rfl, gNames_ok (is := is) (vs := vs) (by simpa using h) q⟩
theorem pg_one {tg : Expr} {i : Nat} (h : PG X tg (gName i)) : PG X tg (gD X.K X.mg (.one i)) := by
  refine ⟨fun pins s σ H v u Q I r ⟨m, ev, d, e2, rs, rv, ea, k⟩ => h.run pins s σ H v u Q I r ?_⟩
  cases ea
  exact k [i] [v] rfl (rs.set rv i)
theorem pg_many {es : List Expr} {k : Nat} {is : List Nat} (hc : X.calm = true) (h : PGs X es (gNames is)) (hl : es.length = is.length) (hp : plainArgs es = true) : PG X (.Tuple es k pos) (gD X.K X.mg (.many is)) := by
  have h1 : (assignEach es X.env).length = is.length := by rw [← hl, each_len]
  have q := pg_tup (k := k) (pos := pos) (n := is.length) hc h h1 (each_plain hp)
  refine ⟨fun pins s σ H v u Q I r ⟨m, ev, d, e2, rs, rv, ea, kk⟩ => q.run pins s σ H v u Q I r ?_⟩
  cases d with
  | tup ds =>
    simp only [asg] at ea
    split at ea
    · rename_i hlen
      cases ea
      obtain ⟨a, vs, rfl, h2, h3⟩ := rv_tup rv
      exact ⟨a, vs, rfl, h2, by rw [← h3.length, hlen], gNames_ok (by rw [← h3.length, hlen]) (kk is vs rfl (rs.sets h3))⟩
    · cases ea
  | _ => simp only [asg] at ea; cases ea

/-! ### assignments -/
variable {es : List Expr} {fs : Ev → M (List D)}
/-- target = value: a name, names -/
def asgS (t : Tg) (f : Ev → M D) : Ev → S := exprS f fun d e hs => match asg t d e with
  | some e2 => some (.nx e2, hs)
  | none => none
theorem asgS_ok {t : Tg} {f : Ev → M D} {D : Ends} {σ : L2.St} {H : Hp} (h : tS X.K X.mg W (asgS t f) D σ H) : tAsg (tE X.K X.mg W f) (gD X.K X.mg t) D σ H := by
  obtain ⟨m, ev, hs, rs, hr, q⟩ := h
  refine ⟨m, ev, hs, rs, hr, (q.expr rs).mono fun d m1 hs1 H1 e1 hr1 q1 v rv => ?_⟩
  cases ea : asg t d ev with
  | none => rw [ea] at q1; exact q1.elim
  | some e2 =>
    rw [ea] at q1
    exact ⟨m1, ev, d, e2, rs.mono e1, rv, ea, fun is vs _ r2 => q1 m1 H1 _ .refl hr1 r2⟩
theorem ds_asg {tg : Expr} {t : Tg} (he : DE X W e fe) (hg : PG X tg (gD X.K X.mg t)) (hs : swapsWithSole [tg] e pos.line X.env = pure false) (hw : swappedStores [tg] e X.env = pure none) (h1 : (assignEach [tg] X.env).map (·.2) = [assign tg X.env]) : DS X W (.Assign [tg] e pos) (asgS t fe) :=
  (ps_asg he hg hs hw h1).imp fun _ _ _ h => asgS_ok h
/-- a, b = x, y -/
def parS (is : List Nat) (f : Ev → M (List D)) : Ev → S := exprS f fun ds e hs => if is.length = ds.length then some (.nx (sets e is ds), hs) else none
theorem ds_par2 {i j : Nat} {x y : Str} {a b : Expr} {px py pt : Pos} {kt k2 : Nat} {pt2 : Pos} (ha : DA X W [a, b] fs) (h : ∀ {ta : TA}, PA X [a, b] ta → PS X (.Assign [.Tuple [.Name x px, .Name y py] kt pt] (.Tuple [a, b] k2 pt2) pos) (tPar i j ta)) :
    DS X W (.Assign [.Tuple [.Name x px, .Name y py] kt pt] (.Tuple [a, b] k2 pt2) pos) (parS [i, j] fs) := (h ha).imp fun D σ H ⟨m, ev, hs, rs, hr, q⟩ => ⟨m, ev, hs, rs, hr, (q.expr rs).mono fun ds m1 hs1 H1 e1 hr1 q1 vs rvs => by
  split at q1
  · rename_i hl
    have hl2 := rvs.length
    match ds, vs, hl, rvs with
    | [d1, d2], vs, _, rvs =>
      obtain ⟨v, w, rfl, r1, r2⟩ := rvs2 rvs
      exact ⟨v, w, rfl, q1 m1 H1 _ .refl hr1 ((rs.mono e1).sets (is := [i, j]) rvs)⟩
  · exact q1.elim⟩
theorem ds_par3 {i j l : Nat} {x y z : Str} {a b c : Expr} {px py pz pt : Pos} {kt k2 : Nat} {pt2 : Pos} (ha : DA X W [a, b, c] fs) (h : ∀ {ta : TA}, PA X [a, b, c] ta → PS X (.Assign [.Tuple [.Name x px, .Name y py, .Name z pz] kt pt] (.Tuple [a, b, c] k2 pt2) pos) (tPar3 i j l ta)) :
    DS X W (.Assign [.Tuple [.Name x px, .Name y py, .Name z pz] kt pt] (.Tuple [a, b, c] k2 pt2) pos) (parS [i, j, l] fs) := (h ha).imp fun D σ H ⟨m, ev, hs, rs, hr, q⟩ => ⟨m, ev, hs, rs, hr, (q.expr rs).mono fun ds m1 hs1 H1 e1 hr1 q1 vs rvs => by
  split at q1
  · rename_i hl
    match ds, vs, hl, rvs with
    | [d1, d2, d3], vs, _, rvs =>
      have q2 := rvs
      obtain ⟨v, r, rfl, r1, r2⟩ := RVs.cons_iff.mp rvs
      obtain ⟨u, w, rfl, r3, r4⟩ := rvs2 r2
      exact ⟨v, u, w, rfl, q1 m1 H1 _ .refl hr1 ((rs.mono e1).sets (is := [i, j, l]) q2)⟩
  · exact q1.elim⟩
/-! stores to an item -/
def setIxD (o i v : D) : P D := fun hs => match o, i with
  | .loc n, .int k => match hs[n]? with
    | some (.lst xs) => match ixN xs.length k with
      | some j => some (.non, hs.set n (.lst (xs.set j v)))
      | none => none
    | _ => none
  | a, b => match setN hs a b v with
    | some h => some (.non, h)
    | none => none
def rSet (K : PySem.W.Frag) (mg : Str → Option Value) : V → V → V → Hp → (Hp → Prop) → Prop := fun o i v H Q => ∃ m hs a b c hs', HR K mg m hs H ∧ RV K mg m H a o ∧ RV K mg m H b i ∧ RV K mg m H c v ∧ setIxD a b c hs = some (.non, hs') ∧ ∀ m' H', Ext K m H m' H' → HR K mg m' hs' H' → Q H'
theorem setIx_ok (hu : X.A.units + 65 < cLine) : PSet X (rSet X.K X.mg) := by
  intro pins s σ H o i v ov iv u Q I ro ri rv h
  obtain ⟨m, hs, a, b, c, hs', hr, ra, rb, rc, hf, k⟩ := h
  unfold setIxD at hf
  split at hf
  · rename_i n j
    obtain ⟨p, rfl, hm⟩ := rv_loc ra
    obtain rfl := rv_int rb
    split at hf
    · rename_i xs e
      split at hf
      · rename_i jj ej
        cases hf
        obtain ⟨vs, h1, h2⟩ := hr.lst_at hm e
        refine set_list pins s σ H _ _ _ ov iv u Q I ro ri rv ⟨p, vs, _, jj, rfl, rfl, h1, by rw [← h2.length]; exact ej, ?_⟩
        have x := Ext.write (K := X.K) (u := .lst (vs.set jj v)) hm h1 lst_plain
        exact k m _ x (hr.write hm h1 lst_plain ⟨_, upd_same, (h2.mono x).set jj (rc.mono x)⟩)
      · cases hf
    · cases hf
  · split at hf
    · rename_i h e
      cases hf
      exact run_set hu I hr ra rb rc ro ri rv e fun m' H' x hr' => k m' H' x hr'
    · cases hf
/-- o[i] = value: the value first -/
def setS (f fo fi : Ev → M D) : Ev → S := exprS f fun v => exprS fo fun o => exprS fi fun i e hs => match setIxD o i v hs with
  | some (.non, h1) => some (.nx e, h1)
  | _ => none
variable {fo fi : Ev → M D} {o i : Expr}
theorem ds_setIx {p2 : Pos} (hu : X.A.units + 65 < cLine) (he : DE X W e fe) (ho : DE X W o fo) (hi : DE X W i fi) (hp : plainIx i = true) (hs : swapsWithSole [.Subscript o i p2] e pos.line X.env = pure false) : DS X W (.Assign [.Subscript o i p2] e pos) (setS fe fo fi) := by
  refine (ps_asg he (pg_sub ho hi (setIx_ok hu) (fun v => ?_)) hs rfl).imp fun D σ H ⟨m, ev, hs, rs, hr, q⟩ => ⟨m, ev, hs, rs, hr, (q.expr rs).mono fun d m1 hs1 H1 e1 hr1 q1 v rv => ?_⟩
  · cases i <;> first | rfl | cases hp
  · refine ⟨m1, ev, hs1, rs.mono e1, hr1, (q1.expr (rs.mono e1)).mono fun a m2 hs2 H2 e2 hr2 q2 w rw => ?_⟩
    refine ⟨m2, ev, hs2, (rs.mono e1).mono e2, hr2, (q2.expr ((rs.mono e1).mono e2)).mono fun b m3 hs3 H3 e3 hr3 q3 z rz => ?_⟩
    cases ef : setIxD a b d hs3 with
    | none => rw [ef] at q3; exact q3.elim
    | some r =>
      obtain ⟨x, h4⟩ := r
      rw [ef] at q3
      cases x with
      | non => exact ⟨m3, hs3, a, b, d, h4, hr3, rw.mono e3, rz, (rv.mono e2).mono e3, ef, fun m' H' x hr => q3 m' H' σ x hr ((((rs.mono e1).mono e2).mono e3).mono x)⟩
      | _ => exact q3.elim
/-- x op= e, x a name -/
def augD : Operator → D → D → P D
  | .Add => fun a b => match a, b with
    | .int i, .int j => P.pure (.int (i + j))
    | .str x, .str y => if x.length + y.length ≤ sizeLine then P.pure (.str (x ++ y)) else P.stuck
    | _, _ => P.stuck
  | .Sub => subD
  | .Mult => fun a b => match a, b with
    | .int i, .int j => if ((-(2 ^ 64) < i ∧ i < 2 ^ 64) ∨ (-(2 ^ 64) < j ∧ j < 2 ^ 64)) then P.pure (.int (i * j)) else P.stuck
    | _, _ => P.stuck
  | .FloorDiv => fun a b => match a, b with
    | .int i, .int j => if 0 < j ∧ j < 1073741824 then P.pure (.int (i / j)) else P.stuck
    | _, _ => P.stuck
  | _ => fun _ _ => P.stuck
theorem augD_ok (op : Operator) : OpR X (inplaceOp op) (rP2 X.K X.mg (augD op)) := by
  intro pins s σ H x y v u Q I rx ry h
  obtain ⟨m, hs, a, b, d, hs', hr, ra, rb, hf, k⟩ := h
  cases op <;> simp only [augD] at hf <;> try exact (stuck_no hf).elim
  · split at hf
    · cases hf
      obtain rfl := rv_int ra
      obtain rfl := rv_int rb
      exact iop_add pins s σ H _ _ v u Q I rx ry ⟨_, _, rfl, rfl, k.here hr mk_int⟩
    · split at hf
      · rename_i hz
        cases hf
        obtain rfl := rv_str ra
        obtain rfl := rv_str rb
        exact iop_add_str pins s σ H _ _ v u Q I rx ry ⟨_, _, rfl, rfl, hz, k.here hr mk_str⟩
      · exact (stuck_no hf).elim
    · exact (stuck_no hf).elim
  · unfold subD at hf
    split at hf
    · cases hf
      obtain rfl := rv_int ra
      obtain rfl := rv_int rb
      exact iop_sub pins s σ H _ _ v u Q I rx ry ⟨_, _, rfl, rfl, k.here hr mk_int⟩
    · exact (stuck_no hf).elim
  · split at hf
    · split at hf
      · rename_i hz
        cases hf
        obtain rfl := rv_int ra
        obtain rfl := rv_int rb
        exact iop_mul pins s σ H _ _ v u Q I rx ry ⟨_, _, rfl, rfl, hz, k.here hr mk_int⟩
      · exact (stuck_no hf).elim
    · exact (stuck_no hf).elim
  · split at hf
    · split at hf
      · rename_i hz
        cases hf
        obtain rfl := rv_int ra
        obtain rfl := rv_int rb
        exact iop_fdiv pins s σ H _ _ v u Q I rx ry ⟨_, _, rfl, rfl, hz, k.here hr mk_int⟩
      · exact (stuck_no hf).elim
    · exact (stuck_no hf).elim
def augS (op : Operator) (n : Nat) (f : Ev → M D) : Ev → S := exprS (varD n) fun x => exprS f fun y e hs => match augD op x y hs with
  | some (z, h1) => some (.nx (e.set n (some z)), h1)
  | none => none
theorem ds_aug {op : Operator} {x : Str} {n : Nat} {p2 : Pos} (he : DE X W e fe) (h : ∀ {te : TE} {ti : TIp}, PE X e te → PIp X op ti → PS X (.AugAssign (.Name x p2) op e pos) (tAug n te ti)) : DS X W (.AugAssign (.Name x p2) op e pos) (augS op n fe) := by
  refine (h he (fun pins s σ H x y v u Q I rx ry q => augD_ok op pins s σ H x y v u Q I rx ry q)).imp fun D σ H ⟨m, ev, hs, rs, hr, q⟩ => ?_
  have q1 := q.expr rs
  unfold varD at q1
  cases e0 : ev[n]? with
  | none => rw [e0] at q1; exact q1.elim
  | some o =>
    cases o with
    | none => rw [e0] at q1; exact q1.elim
    | some d =>
      rw [e0] at q1
      obtain ⟨v, e1, r⟩ := rs.at_ n d e0
      refine ⟨v, e1, m, ev, hs, rs, hr, ((q1.pure hr).expr rs).mono fun b m2 hs2 H2 e2 hr2 q2 w rw => ?_⟩
      cases ef : augD op d b hs2 with
      | none => rw [ef] at q2; exact q2.elim
      | some rr =>
        obtain ⟨z, h3⟩ := rr
        rw [ef] at q2
        exact ⟨m2, hs2, d, b, z, h3, hr2, r.mono e2, rw, ef, fun m' H' u x hr' ru => q2 m' H' _ x hr' (((rs.mono e2).mono x).set ru n)⟩
end
end DL
set_option Elab.async false
set_option linter.all false
set_option maxRecDepth 100000
set_option maxHeartbeats 4000000
namespace DL
open PySem PySem.Spec PyProof.Rows L2 RZ

/-! ## what is walked -/
structure Src where
  items : List D
  /-- what must stay so from turn to turn -/
  ok : Hs → Prop
section
variable (K : PySem.W.Frag) (mg : Str → Option Value)
structure JOk (J : It) (src : Src) (m0 : List Addr) (H0 : Hp) : Prop where
  go : ∀ i m hs H, i < src.items.length → Wk K m0 H0 m H → HR K mg m hs H → src.ok hs → J.go i H
  yl : ∀ i m hs H x H', Wk K m0 H0 m H → HR K mg m hs H → src.ok hs → J.yld i H x H' → i < src.items.length → ∃ d, src.items[i]? = some d ∧ Ext K m H m H' ∧ HR K mg m hs H' ∧ RV K mg m H' d x
  st : ∀ m hs H, Wk K m0 H0 m H → HR K mg m hs H → src.ok hs → J.stop src.items.length H
def tI (W : WX) (f : Ev → M Src) : TI := fun σ H R => ∃ m ev hs, RS K mg m H ev σ ∧ HR K mg m hs H ∧ AfterM K mg W σ m H (f ev hs) fun src m' _ H' => ∀ J, JOk K mg J src m' H' → R J H'
end
section
variable {X : Cx} {W : WX}
abbrev DI (X : Cx) (W : WX) (tg e : Expr) (f : Ev → M Src) : Prop := PI X tg e (tI X.K X.mg W f)
theorem _root_.L2.PI.imp {tg e : Expr} {t t' : TI} (h : PI X tg e t) (hi : ∀ σ H R, t' σ H R → t σ H R) : PI X tg e t' := ⟨fun pins s σ H R I q => h.run pins s σ H R I (hi σ H R q)⟩
theorem di_no {tg e : Expr} : DI X W tg e fun _ => M.stuck := ⟨fun _ _ _ _ _ _ ⟨_, _, _, _, _, h⟩ => h.elim⟩
/-- a list or a tuple -/
def signs (x : Str) : List D := x.cps.toList.map fun c => D.str ⟨#[c]⟩
theorem signs_len {x : Str} : (signs x).length = x.cps.size := by simp [signs]
theorem signs_get {x : Str} {i c : Nat} (h : x.cps[i]? = some c) : (signs x)[i]? = some (.str ⟨#[c]⟩) := by
  unfold signs
  rw [List.getElem?_map, Array.getElem?_toList, h]
  rfl
def seqSrc (d : D) : M Src := fun hs => match d with
  | .str x => some (.ok ⟨signs x, fun _ => True⟩, hs)
  | .tup xs => some (.ok ⟨xs, fun _ => True⟩, hs)
  | .frl xs => some (.ok ⟨xs, fun _ => True⟩, hs)
  | .loc n => match hs[n]? with
    | some (.lst xs) => some (.ok ⟨xs, fun h => h[n]? = some (.lst xs)⟩, hs)
    | _ => none
  | _ => none
theorem jok_list {K : PySem.W.Frag} {mg : Str → Option Value} {m0 : List Addr} {H0 : Hp} {a : Addr} {src : Src} (h : ∀ m hs H, Wk K m0 H0 m H → HR K mg m hs H → src.ok hs → ∃ vs, SqL K H a vs ∧ RVs K mg m H src.items vs) : JOk K mg (Itl K a) src m0 H0 where
  go := fun i m hs H hi e hr ok => by
    obtain ⟨vs, h1, h2⟩ := h m hs H e hr ok
    obtain ⟨d, hd⟩ : ∃ d, src.items[i]? = some d := ⟨src.items[i], by simp [hi]⟩
    obtain ⟨v, hv, _⟩ := h2.get hd
    exact ⟨vs, v, h1, hv⟩
  yl := fun i m hs H x H' e hr ok y hi => by
    obtain ⟨vs, h1, h2⟩ := h m hs H e hr ok
    obtain ⟨rfl, y⟩ := y
    obtain ⟨d, hd, r⟩ := h2.get' (y vs h1)
    exact ⟨d, hd, .refl, hr, r⟩
  st := fun m hs H e hr ok => by
    obtain ⟨vs, h1, h2⟩ := h m hs H e hr ok
    exact ⟨vs, h1, Nat.le_of_eq h2.length.symm⟩
theorem jok_tup {K : PySem.W.Frag} {mg : Str → Option Value} {m0 : List Addr} {H0 : Hp} {a : Addr} {src : Src} (h : ∀ m hs H, Wk K m0 H0 m H → HR K mg m hs H → src.ok hs → ∃ vs, SqT K H a vs ∧ RVs K mg m H src.items vs) : JOk K mg (Itt K a) src m0 H0 where
  go := fun i m hs H hi e hr ok => by
    obtain ⟨vs, h1, h2⟩ := h m hs H e hr ok
    obtain ⟨d, hd⟩ : ∃ d, src.items[i]? = some d := ⟨src.items[i], by simp [hi]⟩
    obtain ⟨v, hv, _⟩ := h2.get hd
    exact ⟨vs, v, h1, hv⟩
  yl := fun i m hs H x H' e hr ok y hi => by
    obtain ⟨vs, h1, h2⟩ := h m hs H e hr ok
    obtain ⟨rfl, y⟩ := y
    obtain ⟨d, hd, r⟩ := h2.get' (y vs h1)
    exact ⟨d, hd, .refl, hr, r⟩
  st := fun m hs H e hr ok => by
    obtain ⟨vs, h1, h2⟩ := h m hs H e hr ok
    exact ⟨vs, h1, Nat.le_of_eq h2.length.symm⟩
theorem SqF.keep {K : PySem.W.Frag} {m m' : List Addr} {H H' : Hp} {a : Addr} {xs : List V} (h : SqF K H a xs) (e : Wk K m H m' H') : SqF K H' a xs := by
  rcases h with ⟨o, h⟩ | h
  · exact .inl ⟨o, e.frz _ _ _ h⟩
  · exact .inr h
theorem jok_str {K : PySem.W.Frag} {mg : Str → Option Value} {m0 : List Addr} {H0 : Hp} {x : Str} {ok : Hs → Prop} : JOk K mg (Its x) ⟨signs x, ok⟩ m0 H0 where
  go := fun i m hs H hi _ _ _ => by
    have h : i < x.cps.size := by simpa [signs_len] using hi
    exact h
  yl := fun i m hs H v H' _ hr _ y hi => by
    obtain ⟨rfl, c, hc, rfl⟩ := y
    exact ⟨_, signs_get hc, .refl, hr, mk_str⟩
  st := fun _ _ _ _ _ _ => by
    show x.cps.size ≤ (signs x).length
    rw [signs_len]; exact Nat.le_refl _
theorem di_seq {tg l : Expr} {f : Ev → M D} (hl : DE X W l f) : DI X W tg l fun e => M.bind (f e) seqSrc := by
  refine ⟨fun pins s σ H R I ⟨m, ev, hs, rs, hr, q⟩ => ?_⟩
  refine thn (hl.run pins s σ H (fun x H1 => (∃ a, x = .ref a ∧ (∃ xs, SqL X.K H1 a xs) ∧ R (Itl X.K a) H1) ∨ (∃ a, x = .ref a ∧ (∃ xs, SqT X.K H1 a xs) ∧ R (Itt X.K a) H1) ∨ ∃ z, x = .str z ∧ R (Its z) H1) I
    ⟨m, ev, hs, rs, hr, q.bind.mono fun d m1 hs1 H1 e1 hr1 q1 v rv => ?_⟩) fun v s1 ⟨x, H1, I1, r1, q1⟩ => ?_
  · cases d with
    | str z =>
      obtain rfl := rv_str rv
      exact .inr (.inr ⟨z, rfl, q1 m1 H1 .refl hr1 _ jok_str⟩)
    | tup xs =>
      obtain ⟨a, vs, rfl, h1, h2⟩ := rv_tup rv
      refine .inr (.inl ?_)
      exact ⟨a, rfl, ⟨vs, h1⟩, q1 m1 H1 .refl hr1 _ (jok_tup fun m' hs' H' e' _ _ => ⟨vs, e'.tup _ _ h1, h2.monoW e'⟩)⟩
    | frl xs =>
      obtain ⟨a, vs, rfl, h1, h2⟩ := rv_frl rv
      exact .inl ⟨a, rfl, ⟨vs, h1.sql⟩, q1 m1 H1 .refl hr1 _ (jok_list fun m' hs' H' e' _ _ => ⟨vs, (h1.keep e').sql, h2.monoW e'⟩)⟩
    | loc n =>
      obtain ⟨a, rfl, hm⟩ := rv_loc rv
      simp only [seqSrc] at q1
      cases e : hs1[n]? with
      | none => rw [e] at q1; exact q1.elim
      | some o =>
        rw [e] at q1
        cases o with
        | lst xs =>
          obtain ⟨vs, h1, h2⟩ := hr1.lst_at hm e
          refine .inl ⟨a, rfl, ⟨vs, SqL.of h1⟩, q1 m1 H1 .refl hr1 _ (jok_list fun m' hs' H' e' hr' ok => ?_)⟩
          obtain ⟨ws, h3, h4⟩ := hr'.lst_at (e'.loc hm) ok
          exact ⟨ws, SqL.of h3, h4⟩
        | dct _ => exact q1.elim
        | dcn _ => exact q1.elim
        | ins _ _ => exact q1.elim
        | set _ => exact q1.elim
    | _ => exact q1.elim
  · rcases q1 with ⟨a, rfl, ⟨xs, hq⟩, q⟩ | ⟨a, rfl, ⟨xs, hq⟩, q⟩ | ⟨z, rfl, q⟩
    rotate_left 2
    · obtain ⟨t, rfl⟩ := r1
      cases ha : z.cps.all (· < 128)
      · exact wpAny_pyIter_wide ha (pi_one (tk := s1.toks) I1 _ (turn_str _ z t "str_iterator" (.inr rfl)) ⟨_, Heap.get?_push_size _ rfl, rfl, rfl⟩ q)
      · exact wpAny_pyIter_ascii ha (pi_one (tk := s1.toks) I1 _ (turn_str _ z t "str_ascii_iterator" (.inl rfl)) ⟨_, Heap.get?_push_size _ rfl, rfl, rfl⟩ q)
    · cases r1
      obtain ⟨its, rv, p, hz⟩ := I1.list hq
      refine wpAny_pyIter_list p.isList ?_
      refine ⟨s1.heap.objs.size, [s1.heap.objs.size], _, _, H1, rfl, I1.kept (t' := s1.toks) fun b o e => Heap.get?_push_of_some _ e, turn_list a _, ⟨_, Heap.get?_push_size _ rfl, rfl, rfl⟩, fun b hb => ?_, q⟩
      have e : b = s1.heap.objs.size := by simpa using hb
      subst e
      exact I1.fpOk (Nat.le_refl _) (I1.hok.fresh (Nat.le_refl _))
    · cases r1
      obtain ⟨its, rv, p, hz⟩ := I1.tuple hq
      refine wpAny_pyIter_tuple (show s1.heap.IsTuple a its.toArray from p) ?_
      refine ⟨s1.heap.objs.size, [s1.heap.objs.size], _, _, H1, rfl, I1.kept (t' := s1.toks) fun b o e => Heap.get?_push_of_some _ e, turn_tuple a _, ⟨_, Heap.get?_push_size _ rfl, rfl, rfl⟩, fun b hb => ?_, q⟩
      have e : b = s1.heap.objs.size := by simpa using hb
      subst e
      exact I1.fpOk (Nat.le_refl _) (I1.hok.fresh (Nat.le_refl _))
/-! ranges -/
def intL (lo : Int) (n : Nat) : List D := (List.range n).map fun (i : Nat) => D.int (lo + i)
theorem intL_get {lo : Int} {n i : Nat} (h : i < n) : (intL lo n)[i]? = some (.int (lo + i)) := by
  unfold intL
  rw [List.getElem?_map, List.getElem?_range h]
  rfl
theorem intL_len {lo : Int} {n : Nat} : (intL lo n).length = n := by simp [intL]
noncomputable def rngSrc (ds : List D) : M Src := fun hs => match ds with
  | [.int j] => @ite _ (-(2 ^ 62) ≤ j ∧ j < 2 ^ 62) (Classical.propDecidable _) (some (.ok ⟨intL 0 j.toNat, fun _ => True⟩, hs)) none
  | [.int i, .int j] => @ite _ ((-(2 ^ 62) ≤ i ∧ i < 2 ^ 62) ∧ (-(2 ^ 62) ≤ j ∧ j < 2 ^ 62)) (Classical.propDecidable _) (some (.ok ⟨intL i (j - i).toNat, fun _ => True⟩, hs)) none
  | _ => none
theorem jok_range {K : PySem.W.Frag} {mg : Str → Option Value} {m0 : List Addr} {H0 : Hp} {lo : Int} {n : Nat} {ok : Hs → Prop} : JOk K mg (Itr lo n) ⟨intL lo n, ok⟩ m0 H0 where
  go := fun i m hs H hi _ _ _ => by have h : i < n := by simpa [intL_len] using hi
                                    exact h
  yl := fun i m hs H x H' _ hr _ y hi => by
    obtain ⟨rfl, rfl⟩ := y
    exact ⟨_, intL_get (by simpa [intL_len] using hi), .refl, hr, mk_int⟩
  st := fun _ _ _ _ _ _ => by simp [intL_len, Itr]
variable {a b : Expr} {fs : Ev → M (List D)} {p pos : Pos}
theorem di_range1 {tg : Expr} (hg : Gl X "range") (hm : X.mg "range" = none) (ha : DA X W [a] fs) (hp : notStar a = true) : DI X W tg (.Call (.Name "range" p) [a] [] pos) fun e => M.bind (fs e) fun xs => if xs.length = 1 then rngSrc xs else M.stuck :=
  (pi_range1 hg hm ha (by rw [star_cons hp]; rfl)).imp fun σ H R ⟨m, ev, hs, rs, hr, q⟩ => ⟨m, ev, hs, rs, hr, q.bind.mono fun xs m1 hs1 H1 e1 hr1 q1 vs rvs => by
    split at q1
    · unfold rngSrc at q1
      split at q1
      · split at q1
        · rename_i hj
          obtain ⟨v, rfl, r1⟩ := rvs1 rvs
          obtain rfl := rv_int r1
          exact ⟨_, rfl, hj.1, hj.2, q1 m1 H1 .refl hr1 _ jok_range⟩
        · exact q1.elim
      · rename_i hl; simp at hl
      · exact q1.elim
    · exact q1.elim⟩
theorem di_range2 {tg : Expr} (hg : Gl X "range") (hm : X.mg "range" = none) (ha : DA X W [a, b] fs) (hp : notStar a = true) (hq : notStar b = true) : DI X W tg (.Call (.Name "range" p) [a, b] [] pos) fun e => M.bind (fs e) fun xs => if xs.length = 2 then rngSrc xs else M.stuck :=
  (pi_range2 hg hm ha (by rw [star_cons hp, star_cons hq]; rfl) (by rw [star_cons hq]; rfl)).imp fun σ H R ⟨m, ev, hs, rs, hr, q⟩ => ⟨m, ev, hs, rs, hr, q.bind.mono fun xs m1 hs1 H1 e1 hr1 q1 vs rvs => by
    split at q1
    · unfold rngSrc at q1
      split at q1
      · rename_i hl; simp at hl
      · split at q1
        · rename_i hj
          obtain ⟨v, w, rfl, r1, r2⟩ := rvs2 rvs
          obtain rfl := rv_int r1
          obtain rfl := rv_int r2
          exact ⟨_, _, rfl, ⟨hj.1.1, hj.1.2, hj.2.1, hj.2.2⟩, q1 m1 H1 .refl hr1 _ jok_range⟩
        · exact q1.elim
      · exact q1.elim
    · exact q1.elim⟩

/-! range(i, j, c), c above 0 -/
def stepL (lo c : Int) (n : Nat) : List D := (List.range n).map fun (i : Nat) => D.int (lo + i * c)
theorem stepL_get {lo c : Int} {n i : Nat} (h : i < n) : (stepL lo c n)[i]? = some (.int (lo + i * c)) := by
  unfold stepL
  rw [List.getElem?_map, List.getElem?_range h]
  rfl
theorem stepL_len {lo c : Int} {n : Nat} : (stepL lo c n).length = n := by simp [stepL]
noncomputable def rngSrc3 (ds : List D) : M Src := fun hs => match ds with
  | [.int i, .int j, .int c] => @ite _ ((0 < c ∧ c < 1073741824) ∧ Builtin.Range.small i j c = true ∧ 0 ≤ Builtin.Range.rangeSize i j c) (Classical.propDecidable _) (some (.ok ⟨stepL i c (Builtin.Range.rangeSize i j c).toNat, fun _ => True⟩, hs)) none
  | _ => none
theorem jok_step {K : PySem.W.Frag} {mg : Str → Option Value} {m0 : List Addr} {H0 : Hp} {lo c : Int} {n : Nat} {ok : Hs → Prop} : JOk K mg (Itc lo c n) ⟨stepL lo c n, ok⟩ m0 H0 where
  go := fun i m hs H hi _ _ _ => by have h : i < n := by simpa [stepL_len] using hi
                                    exact h
  yl := fun i m hs H x H' _ hr _ y hi => by
    obtain ⟨rfl, rfl⟩ := y
    exact ⟨_, stepL_get (by simpa [stepL_len] using hi), .refl, hr, mk_int⟩
  st := fun _ _ _ _ _ _ => by simp [stepL_len, Itc]
theorem di_range3 {c : Expr} {tg : Expr} (hg : Gl X "range") (hm : X.mg "range" = none) (ha : DA X W [a, b, c] fs) (hp : plainArgs [a, b, c] = true) : DI X W tg (.Call (.Name "range" p) [a, b, c] [] pos) fun e => M.bind (fs e) rngSrc3 := by
  have hp' := hp
  simp only [plainArgs, Bool.and_eq_true] at hp'
  refine (pi_range3 hg hm ha (star_cons hp'.1) (any_plain (by simp only [plainArgs, Bool.and_eq_true]; exact hp'.2))).imp fun σ H R ⟨m, ev, hs, rs, hr, q⟩ => ⟨m, ev, hs, rs, hr, q.bind.mono fun xs m1 hs1 H1 e1 hr1 q1 vs rvs => ?_⟩
  unfold rngSrc3 at q1
  split at q1
  · split at q1
    · rename_i hj
      obtain ⟨⟨c0, c1⟩, c2, c3⟩ := hj
      obtain ⟨v, r, rfl, r1, r2⟩ := RVs.cons_iff.mp rvs
      obtain ⟨u, w, rfl, r3, r4⟩ := rvs2 r2
      obtain rfl := rv_int r1
      obtain rfl := rv_int r3
      obtain rfl := rv_int r4
      exact ⟨_, _, _, _, rfl, ⟨by omega, by omega, c2, (Int.toNat_of_nonneg c3).symm⟩, q1 m1 H1 .refl hr1 _ jok_step⟩
    · exact q1.elim
  · exact q1.elim
/-! enumerate, zip -/
def enumL : Nat → List D → List D
  | _, [] => []
  | k, x :: xs => .tup [.int (k : Nat), x] :: enumL (k + 1) xs
theorem enumL_get : ∀ {xs : List D} {k i : Nat}, (enumL k xs)[i]? = xs[i]?.map fun x => .tup [.int ((k + i : Nat) : Int), x]
  | [], _, _ => by simp [enumL]
  | x :: xs, k, 0 => by simp [enumL]
  | x :: xs, k, i + 1 => by
    show (enumL (k + 1) xs)[i]? = _
    rw [enumL_get (xs := xs)]
    have : k + 1 + i = k + (i + 1) := by omega
    rw [this]
    rfl
theorem enumL_len : ∀ {xs : List D} {k : Nat}, (enumL k xs).length = xs.length
  | [], _ => rfl
  | x :: xs, k => by simp [enumL, enumL_len (xs := xs)]
def zipL : List D → List D → List D
  | x :: xs, y :: ys => .tup [x, y] :: zipL xs ys
  | _, _ => []
theorem zipL_len : ∀ {xs ys : List D}, (zipL xs ys).length = min xs.length ys.length
  | [], _ => by simp [zipL]
  | _ :: _, [] => by simp [zipL]
  | x :: xs, y :: ys => by simp [zipL, zipL_len (xs := xs)]
theorem zipL_get : ∀ {xs ys : List D} {i : Nat} {x y : D}, xs[i]? = some x → ys[i]? = some y → (zipL xs ys)[i]? = some (.tup [x, y])
  | [], _, _, _, _, h, _ => by simp at h
  | _ :: _, [], _, _, _, _, h => by simp at h
  | a :: xs, b :: ys, 0, _, _, h1, h2 => by simp at h1 h2; subst h1 h2; rfl
  | a :: xs, b :: ys, i + 1, _, _, h1, h2 => by
    show (zipL xs ys)[i]? = _
    exact zipL_get (by simpa using h1) (by simpa using h2)
/-- the items of a list or a tuple, and what keeps them so -/
def seqAt (hs : Hs) : D → Option (List D × (Hs → Prop))
  | .tup xs => some (xs, fun _ => True)
  | .frl xs => some (xs, fun _ => True)
  | .loc n => match hs[n]? with
    | some (.lst xs) => some (xs, fun h => h[n]? = some (.lst xs))
    | _ => none
  | _ => none
theorem seqAt_ok {K : PySem.W.Frag} {mg : Str → Option Value} {m0 : List Addr} {H0 : Hp} {hs0 : Hs} {d : D} {xs : List D} {ok : Hs → Prop} {v : V} (h : seqAt hs0 d = some (xs, ok)) (hr0 : HR K mg m0 hs0 H0) (r : RV K mg m0 H0 d v) :
    ∃ a, v = .ref a ∧ (((∃ vs, SqL K H0 a vs) ∧ (∀ ys, d ≠ .tup ys) ∧ ∀ m hs H, Wk K m0 H0 m H → HR K mg m hs H → ok hs → ∃ vs, SqL K H a vs ∧ RVs K mg m H xs vs) ∨ ((∃ vs, SqT K H0 a vs) ∧ (∃ ys, d = .tup ys) ∧ ∀ m hs H, Wk K m0 H0 m H → HR K mg m hs H → ok hs → ∃ vs, SqT K H a vs ∧ RVs K mg m H xs vs)) := by
  cases d with
  | tup ys =>
    cases h
    obtain ⟨a, vs, rfl, h1, h2⟩ := rv_tup r
    exact ⟨a, rfl, .inr ⟨⟨vs, h1⟩, ⟨_, rfl⟩, fun m hs H e _ _ => ⟨vs, e.tup _ _ h1, h2.monoW e⟩⟩⟩
  | frl ys =>
    cases h
    obtain ⟨a, vs, rfl, h1, h2⟩ := rv_frl r
    exact ⟨a, rfl, .inl ⟨⟨vs, h1.sql⟩, (fun _ z => nomatch z), fun m hs H e _ _ => ⟨vs, (h1.keep e).sql, h2.monoW e⟩⟩⟩
  | loc n =>
    obtain ⟨a, rfl, hm⟩ := rv_loc r
    simp only [seqAt] at h
    split at h
    · rename_i ys e0
      cases h
      obtain ⟨vs, h1, h2⟩ := hr0.lst_at hm e0
      refine ⟨a, rfl, .inl ⟨⟨vs, SqL.of h1⟩, (fun _ z => nomatch z), fun m hs H e hr ok => ?_⟩⟩
      obtain ⟨ws, h3, h4⟩ := hr.lst_at (e.loc hm) ok
      exact ⟨ws, SqL.of h3, h4⟩
    · cases h
  | _ => cases h
def enumSrc (ds : List D) : M Src := fun hs => match ds with
  | [d] => match seqAt hs d with
    | some (xs, ok) => some (.ok ⟨enumL 0 xs, ok⟩, hs)
    | none => none
  | _ => none
section
variable {K : PySem.W.Frag} {mg : Str → Option Value} {m0 : List Addr} {H0 : Hp} {a b : Addr} {xs ys : List D} {ok : Hs → Prop}
theorem pair_new {m : List Addr} {hs : Hs} {H : Hp} {T : Addr} {u v : V} {x y : D} (hr : HR K mg m hs H) (nT : H T = none) (r1 : RV K mg m H x u) (r2 : RV K mg m H y v) : Ext K m H m (upd H T (.tup [u, v])) ∧ HR K mg m hs (upd H T (.tup [u, v])) ∧ RV K mg m (upd H T (.tup [u, v])) (.tup [x, y]) (.ref T) :=
  ⟨Ext.upd_new nT, hr.upd_new nT, mk_tup (SqT.of upd_same) (RVs.cons (r1.mono (Ext.upd_new nT)) (RVs.cons (r2.mono (Ext.upd_new nT)) (RVs.nil_iff.mpr rfl)))⟩
theorem jok_enumL (h : ∀ m hs H, Wk K m0 H0 m H → HR K mg m hs H → ok hs → ∃ vs, SqL K H a vs ∧ RVs K mg m H xs vs) : JOk K mg (Ite K a) ⟨enumL 0 xs, ok⟩ m0 H0 where
  go := fun i m hs H hi e hr ok => by
    obtain ⟨vs, h1, h2⟩ := h m hs H e hr ok
    have hi : i < xs.length := by simpa [enumL_len] using hi
    obtain ⟨v, hv, _⟩ := h2.get (List.getElem?_eq_getElem hi)
    exact ⟨vs, v, h1, hv⟩
  yl := fun i m hs H x H' e hr ok y hi => by
    obtain ⟨vs, h1, h2⟩ := h m hs H e hr ok
    obtain ⟨T, v, rfl, nT, rfl, y⟩ := y
    obtain ⟨d, hd, r⟩ := h2.get' (y vs h1)
    obtain ⟨q1, q2, q3⟩ := pair_new (x := .int (i : Nat)) hr nT mk_int r
    exact ⟨_, by rw [enumL_get, hd]; simp, q1, q2, q3⟩
  st := fun m hs H e hr ok => by
    obtain ⟨vs, h1, h2⟩ := h m hs H e hr ok
    exact ⟨vs, h1, by rw [enumL_len]; exact Nat.le_of_eq h2.length.symm⟩
theorem jok_enumT (h : ∀ m hs H, Wk K m0 H0 m H → HR K mg m hs H → ok hs → ∃ vs, SqT K H a vs ∧ RVs K mg m H xs vs) : JOk K mg (IteT K a) ⟨enumL 0 xs, ok⟩ m0 H0 where
  go := fun i m hs H hi e hr ok => by
    obtain ⟨vs, h1, h2⟩ := h m hs H e hr ok
    have hi : i < xs.length := by simpa [enumL_len] using hi
    obtain ⟨v, hv, _⟩ := h2.get (List.getElem?_eq_getElem hi)
    exact ⟨vs, v, h1, hv⟩
  yl := fun i m hs H x H' e hr ok y hi => by
    obtain ⟨vs, h1, h2⟩ := h m hs H e hr ok
    obtain ⟨T, v, rfl, nT, rfl, y⟩ := y
    obtain ⟨d, hd, r⟩ := h2.get' (y vs h1)
    obtain ⟨q1, q2, q3⟩ := pair_new (x := .int (i : Nat)) hr nT mk_int r
    exact ⟨_, by rw [enumL_get, hd]; simp, q1, q2, q3⟩
  st := fun m hs H e hr ok => by
    obtain ⟨vs, h1, h2⟩ := h m hs H e hr ok
    exact ⟨vs, h1, by rw [enumL_len]; exact Nat.le_of_eq h2.length.symm⟩
variable {ok2 : Hs → Prop}
theorem jok_zipL (h : ∀ m hs H, Wk K m0 H0 m H → HR K mg m hs H → ok hs → ∃ vs, SqL K H a vs ∧ RVs K mg m H xs vs) (h' : ∀ m hs H, Wk K m0 H0 m H → HR K mg m hs H → ok2 hs → ∃ vs, SqL K H b vs ∧ RVs K mg m H ys vs) : JOk K mg (Itz K a b) ⟨zipL xs ys, fun h => ok h ∧ ok2 h⟩ m0 H0 where
  go := fun i m hs H hi e hr ⟨o1, o2⟩ => by
    obtain ⟨vs, h1, h2⟩ := h m hs H e hr o1
    obtain ⟨ws, h3, h4⟩ := h' m hs H e hr o2
    have hi : i < min xs.length ys.length := by simpa [zipL_len] using hi
    obtain ⟨v, hv, _⟩ := h2.get (i := i) (List.getElem?_eq_getElem (by omega))
    obtain ⟨w, hw, _⟩ := h4.get (i := i) (List.getElem?_eq_getElem (by omega))
    exact ⟨vs, ws, v, w, h1, h3, hv, hw⟩
  yl := fun i m hs H x H' e hr ⟨o1, o2⟩ y hi => by
    obtain ⟨vs, h1, h2⟩ := h m hs H e hr o1
    obtain ⟨ws, h3, h4⟩ := h' m hs H e hr o2
    obtain ⟨T, v, w, rfl, nT, rfl, y, z⟩ := y
    obtain ⟨d, hd, r⟩ := h2.get' (y vs h1)
    obtain ⟨d2, hd2, r2⟩ := h4.get' (z ws h3)
    obtain ⟨q1, q2, q3⟩ := pair_new hr nT r r2
    exact ⟨_, zipL_get hd hd2, q1, q2, q3⟩
  st := fun m hs H e hr ⟨o1, o2⟩ => by
    obtain ⟨vs, h1, h2⟩ := h m hs H e hr o1
    obtain ⟨ws, h3, h4⟩ := h' m hs H e hr o2
    refine ⟨vs, ws, h1, h3, ?_⟩
    have l1 := h2.length
    have l2 := h4.length
    simp only [zipL_len]
    omega
theorem jok_zipT (h : ∀ m hs H, Wk K m0 H0 m H → HR K mg m hs H → ok hs → ∃ vs, SqT K H a vs ∧ RVs K mg m H xs vs) (h' : ∀ m hs H, Wk K m0 H0 m H → HR K mg m hs H → ok2 hs → ∃ vs, SqT K H b vs ∧ RVs K mg m H ys vs) : JOk K mg (ItzT K a b) ⟨zipL xs ys, fun h => ok h ∧ ok2 h⟩ m0 H0 where
  go := fun i m hs H hi e hr ⟨o1, o2⟩ => by
    obtain ⟨vs, h1, h2⟩ := h m hs H e hr o1
    obtain ⟨ws, h3, h4⟩ := h' m hs H e hr o2
    have hi : i < min xs.length ys.length := by simpa [zipL_len] using hi
    obtain ⟨v, hv, _⟩ := h2.get (i := i) (List.getElem?_eq_getElem (by omega))
    obtain ⟨w, hw, _⟩ := h4.get (i := i) (List.getElem?_eq_getElem (by omega))
    exact ⟨vs, ws, v, w, h1, h3, hv, hw⟩
  yl := fun i m hs H x H' e hr ⟨o1, o2⟩ y hi => by
    obtain ⟨vs, h1, h2⟩ := h m hs H e hr o1
    obtain ⟨ws, h3, h4⟩ := h' m hs H e hr o2
    obtain ⟨T, v, w, rfl, nT, rfl, y, z⟩ := y
    obtain ⟨d, hd, r⟩ := h2.get' (y vs h1)
    obtain ⟨d2, hd2, r2⟩ := h4.get' (z ws h3)
    obtain ⟨q1, q2, q3⟩ := pair_new hr nT r r2
    exact ⟨_, zipL_get hd hd2, q1, q2, q3⟩
  st := fun m hs H e hr ⟨o1, o2⟩ => by
    obtain ⟨vs, h1, h2⟩ := h m hs H e hr o1
    obtain ⟨ws, h3, h4⟩ := h' m hs H e hr o2
    refine ⟨vs, ws, h1, h3, ?_⟩
    have l1 := h2.length
    have l2 := h4.length
    simp only [zipL_len]
    omega
end
theorem di_enum {elts : List Expr} {kk : Nat} {tpos : Pos} (hg : Gl X "enumerate") (hm : X.mg "enumerate" = none) (ha : DA X W [a] fs) (hp : notStar a = true) : DI X W (.Tuple elts kk tpos) (.Call (.Name "enumerate" p) [a] [] pos) fun e => M.bind (fs e) enumSrc := by
  refine (pi_enumA hg hm ha (by rw [star_cons hp]; rfl)).imp fun σ H R ⟨m, ev, hs, rs, hr, q⟩ => ⟨m, ev, hs, rs, hr, q.bind.mono fun xs m1 hs1 H1 e1 hr1 q1 vs rvs => ?_⟩
  unfold enumSrc at q1
  split at q1
  · rename_i d
    obtain ⟨v, rfl, r1⟩ := rvs1 rvs
    split at q1
    · rename_i ys ok e
      obtain ⟨a, rfl, ⟨h1, _, h2⟩ | ⟨h1, _, h2⟩⟩ := seqAt_ok e hr1 r1
      · exact ⟨a, rfl, .inl ⟨h1, q1 m1 H1 .refl hr1 _ (jok_enumL h2)⟩⟩
      · exact ⟨a, rfl, .inr ⟨h1, q1 m1 H1 .refl hr1 _ (jok_enumT h2)⟩⟩
    · exact q1.elim
  · exact q1.elim
def bothTup : D → D → Bool
  | .tup _, .tup _ => true
  | .tup _, _ => false
  | _, .tup _ => false
  | _, _ => true
theorem both_l {c : D} {ys : List D} (h : bothTup c (.tup ys) = true) (n : ∀ xs, c ≠ .tup xs) : False := by
  cases c <;> first | exact n _ rfl | cases h
theorem both_r {c : D} {ys : List D} (h : bothTup (.tup ys) c = true) (n : ∀ xs, c ≠ .tup xs) : False := by
  cases c <;> first | exact n _ rfl | cases h
def zipSrc (ds : List D) : M Src := fun hs => match ds with
  | [c, d] => match seqAt hs c, seqAt hs d with
    | some (xs, ok), some (ys, ok2) => if bothTup c d = true then some (.ok ⟨zipL xs ys, fun h => ok h ∧ ok2 h⟩, hs) else none
    | _, _ => none
  | _ => none
theorem di_zip {elts : List Expr} {kk : Nat} {tpos : Pos} (hg : Gl X "zip") (hm : X.mg "zip" = none) (ha : DA X W [a, b] fs) (hp : notStar a = true) (hq : notStar b = true) : DI X W (.Tuple elts kk tpos) (.Call (.Name "zip" p) [a, b] [] pos) fun e => M.bind (fs e) zipSrc := by
  refine (pi_zipA hg hm ha (by rw [star_cons hp]) (by rw [star_cons hq]; rfl)).imp fun σ H R ⟨m, ev, hs, rs, hr, q⟩ => ⟨m, ev, hs, rs, hr, q.bind.mono fun xs m1 hs1 H1 e1 hr1 q1 vs rvs => ?_⟩
  unfold zipSrc at q1
  split at q1
  · rename_i c d
    obtain ⟨v, w, rfl, r1, r2⟩ := rvs2 rvs
    split at q1
    · rename_i us ok ws ok2 e1 e2
      split at q1
      · rename_i hb
        obtain ⟨a, rfl, ⟨⟨vs, h1⟩, t1, h2⟩ | ⟨⟨vs, h1⟩, ⟨zs, rfl⟩, h2⟩⟩ := seqAt_ok e1 hr1 r1
        · obtain ⟨b, rfl, ⟨⟨vs', h3⟩, _, h4⟩ | ⟨⟨vs', h3⟩, ⟨zs', rfl⟩, h4⟩⟩ := seqAt_ok e2 hr1 r2
          · exact ⟨a, b, _, _, rfl, .inl ⟨h1, h3, q1 m1 H1 .refl hr1 _ (jok_zipL h2 h4)⟩⟩
          · exact (both_l hb t1).elim
        · obtain ⟨b, rfl, ⟨⟨vs', h3⟩, t2, h4⟩ | ⟨⟨vs', h3⟩, ⟨zs', rfl⟩, h4⟩⟩ := seqAt_ok e2 hr1 r2
          · exact (both_r hb t2).elim
          · exact ⟨a, b, _, _, rfl, .inr ⟨h1, h3, q1 m1 H1 .refl hr1 _ (jok_zipT h2 h4)⟩⟩
      · exact q1.elim
    · exact q1.elim
  · exact q1.elim

/-! ## for -/
open Classical in
noncomputable def forS (ok : Hs → Prop) (body : D → Ev → S) : List D → Ev → S
  | [], e => fun hs => if ok hs then some (.nx e, hs) else none
  | d :: ds, e => fun hs => if ok hs then (match body d e hs with
    | some (.nx e1, h1) => forS ok body ds e1 h1
    | some (.ct e1, h1) => forS ok body ds e1 h1
    | some (.bk e1, h1) => some (.nx e1, h1)
    | r => r) else none
noncomputable def loopS (t : Tg) (fi : Ev → M Src) (g : Ev → S) : Ev → S := exprS fi fun src => forS src.ok (fun d e hs => match asg t d e with
  | some e2 => g e2 hs
  | none => none) src.items
variable {tg iter : Expr} {fi : Ev → M Src} {t : Tg} {body : List Stmt} {g : Ev → S}
theorem ds_for (hp : PassesOwn (model X.prog X.w) X.A X.env X.xe) (hc : X.calm = true) (hi : DI X W tg iter fi) (hg : PG X tg (gD X.K X.mg t)) (hb : DSs X W body g) (hs : ∀ x, foldedSetIterable iter X.env x = pure x) : DS X W (.For tg iter body [] pos) (loopS t fi g) := by
  refine (ps_for hp hc hi hg hb hs).imp fun D σ H ⟨m, ev, hs, rs, hr, q⟩ => ⟨m, ev, hs, rs, hr, (q.expr rs).mono fun src m1 hs1 H1 e1 hr1 q1 J j => ?_⟩
  have rs1 := rs.mono e1
  refine ⟨fun i k σ' H' => k = src.items.length - i ∧ i ≤ src.items.length ∧ ∃ m' ev' hs', Ext X.K m1 H1 m' H' ∧ RS X.K X.mg m' H' ev' σ' ∧ HR X.K X.mg m' hs' H' ∧ AfterS X.K X.mg W m' H' (forS src.ok (fun d e hs => match asg t d e with
    | some e2 => g e2 hs
    | none => none) (src.items.drop i) ev' hs') D, ⟨_, rfl, Nat.zero_le _, m1, ev, hs1, .refl, rs1, hr1, by simpa using q1⟩, ?_⟩
  rintro i k σ' H' ⟨rfl, hi', m', ev', hs', x, rs', hr', q'⟩
  by_cases hlt : i < src.items.length
  · have hd : src.items.drop i = src.items[i] :: src.items.drop (i + 1) := List.drop_eq_getElem_cons hlt
    rw [hd] at q'
    simp only [forS] at q'
    split at q'
    · rename_i ok
      refine .inr ⟨j.go i m' hs' H' hlt x.wk hr' ok, fun σ2 H2 => ∃ m2 ev2 hs2, Ext X.K m1 H1 m2 H2 ∧ RS X.K X.mg m2 H2 ev2 σ2 ∧ HR X.K X.mg m2 hs2 H2 ∧ AfterS X.K X.mg W m2 H2 (forS src.ok (fun d e hs => match asg t d e with
        | some e2 => g e2 hs
        | none => none) (src.items.drop (i + 1)) ev2 hs2) D, fun σ2 H2 h2 => ⟨_, by omega, rfl, hlt, h2⟩, fun v H2 y => ?_⟩
      obtain ⟨d, hd2, x2, hr2, rd⟩ := j.yl i m' hs' H' v H2 x.wk hr' ok y hlt
      have ed : src.items[i] = d := by
        rw [List.getElem?_eq_getElem hlt] at hd2
        exact Option.some.inj hd2
      rw [ed] at q'
      cases ea : asg t d ev' with
      | none => rw [ea] at q'; exact q'.elim
      | some e2 =>
        rw [ea] at q'
        simp only at q'
        refine ⟨m', ev', d, e2, rs'.mono x2, rd, ea, fun is vs _ r2 => ⟨m', e2, hs', r2, hr2, ?_⟩⟩
        have q2 := AfterS.from x2 q'
        cases eg : g e2 hs' with
        | none => rw [eg] at q2; exact q2
        | some r =>
          obtain ⟨r, h1⟩ := r
          rw [eg] at q2
          cases r with
          | nx e3 => exact fun m3 H3 σ3 x3 hr3 rs3 => ⟨m3, e3, h1, (x.trans x2).trans x3, rs3, hr3, AfterS.from x3 q2⟩
          | ct e3 => exact fun m3 H3 σ3 x3 hr3 rs3 => ⟨m3, e3, h1, (x.trans x2).trans x3, rs3, hr3, AfterS.from x3 q2⟩
          | bk e3 => exact q2
          | ret d => exact q2
          | exc z e3 => exact q2
    · exact q'.elim
  · have e : i = src.items.length := by omega
    subst e
    rw [List.drop_length] at q'
    simp only [forS] at q'
    split at q'
    · rename_i ok
      exact .inl ⟨j.st m' hs' H' x.wk hr' ok, q' m' H' σ' .refl hr' rs'⟩
    · exact q'.elim

/-! ## while -/
def whileF (t : Ev → M Bool) (b : Ev → S) : Nat → Ev → S
  | 0, _ => fun _ => none
  | n + 1, e => fun hs => match t e hs with
    | some (.ok true, h1) => (match b e h1 with
      | some (.nx e1, h2) => whileF t b n e1 h2
      | some (.ct e1, h2) => whileF t b n e1 h2
      | some (.bk e1, h2) => some (.nx e1, h2)
      | r => r)
    | some (.ok false, h1) => some (.nx e, h1)
    | some (.error x, h1) => some (.exc x e, h1)
    | none => none
theorem whileF_more {t : Ev → M Bool} {b : Ev → S} : ∀ {n : Nat} {e : Ev} {hs : Hs} {r : Fl × Hs}, whileF t b n e hs = some r → whileF t b (n + 1) e hs = some r
  | 0, _, _, _, h => by cases h
  | n + 1, e, hs, r, h => by
    unfold whileF at h ⊢
    cases et : t e hs with
    | none => rw [et] at h; cases h
    | some q =>
      obtain ⟨q, h1⟩ := q
      rw [et] at h
      cases q with
      | error x => exact h
      | ok c =>
        cases c with
        | false => exact h
        | true =>
          simp only at h ⊢
          cases eb : b e h1 with
          | none => rw [eb] at h; cases h
          | some z =>
            obtain ⟨z, h2⟩ := z
            rw [eb] at h
            cases z with
            | nx e1 => exact whileF_more h
            | ct e1 => exact whileF_more h
            | bk e1 => exact h
            | ret d => exact h
            | exc x e1 => exact h
open Classical in
/-- as many turns as it takes -/
noncomputable def whileS (t : Ev → M Bool) (b : Ev → S) (e : Ev) : S := fun hs => if h : ∃ n r, whileF t b n e hs = some r then whileF t b h.choose e hs else none
theorem whileS_of {t : Ev → M Bool} {b : Ev → S} {n : Nat} {e : Ev} {hs : Hs} {r : Fl × Hs} (h : whileF t b n e hs = some r) : whileS t b e hs = some r := by
  have hx : ∃ n r, whileF t b n e hs = some r := ⟨n, r, h⟩
  unfold whileS
  rw [dif_pos hx]
  obtain ⟨r', h'⟩ := hx.choose_spec
  have up : ∀ {n r} (k : Nat), whileF t b n e hs = some r → whileF t b (n + k) e hs = some r := fun {n r} k q => by
    induction k with
    | zero => exact q
    | succ k ih => exact whileF_more ih
  rw [h']
  have a1 := up hx.choose h
  have a2 := up n h'
  rw [Nat.add_comm] at a2
  exact a2.symm.trans a1
theorem whileS_inv {t : Ev → M Bool} {b : Ev → S} {e : Ev} {hs : Hs} {r : Fl × Hs} (h : whileS t b e hs = some r) : ∃ n, whileF t b n e hs = some r := by
  unfold whileS at h
  split at h
  · exact ⟨_, h⟩
  · cases h
theorem ds_while {c : Expr} {ft : Ev → M Bool} (hp : PassesOwn (model X.prog X.w) X.A X.env X.xe) (hc : DT X W c ft) (hb : DSs X W body g) : DS X W (.While c body [] pos) (whileS ft g) := by
  refine (ps_while hp hc hb).imp fun D σ H ⟨m, ev, hs, rs, hr, q⟩ => ?_
  have q0 := q
  obtain ⟨n0, en⟩ : ∃ n, whileF ft g n ev hs = whileS ft g ev hs ∧ ∃ r, whileS ft g ev hs = some r := by
    cases e : whileS ft g ev hs with
    | none => rw [e] at q; exact q.elim
    | some r => obtain ⟨n, h⟩ := whileS_inv e; exact ⟨n, h, r, rfl⟩
  rw [← en.1] at q
  refine ⟨fun k σ' H' => ∃ m' ev' hs', RS X.K X.mg m' H' ev' σ' ∧ HR X.K X.mg m' hs' H' ∧ AfterS X.K X.mg W m' H' (whileF ft g k ev' hs') D, ⟨n0, m, ev, hs, rs, hr, q⟩, ?_⟩
  rintro k σ' H' ⟨m', ev', hs', rs', hr', q'⟩
  cases k with
  | zero => exact q'.elim
  | succ k =>
    simp only [whileF] at q'
    refine ⟨m', ev', hs', rs', hr', ?_⟩
    cases et : ft ev' hs' with
    | none => rw [et] at q'; exact q'.elim
    | some z =>
      obtain ⟨z, h1⟩ := z
      rw [et] at q'
      cases z with
      | error x => exact fun m2 H2 cls d x2 hr2 rx => q' m2 H2 σ' cls d x2 hr2 (rs'.mono x2) rx
      | ok c =>
        cases c with
        | false =>
          intro m2 H2 x2 hr2
          show (if false = true then _ else _)
          rw [if_neg Bool.false_ne_true]
          exact q' m2 H2 σ' x2 hr2 (rs'.mono x2)
        | true =>
          intro m2 H2 x2 hr2
          show (if true = true then _ else _)
          rw [if_pos rfl]
          refine ⟨fun σ3 H3 => ∃ m3 ev3 hs3, RS X.K X.mg m3 H3 ev3 σ3 ∧ HR X.K X.mg m3 hs3 H3 ∧ AfterS X.K X.mg W m3 H3 (whileF ft g k ev3 hs3) D, fun σ3 H3 h3 => ⟨k, Nat.lt_succ_self _, h3⟩, m2, ev', h1, rs'.mono x2, hr2, ?_⟩
          have q2 := AfterS.from x2 q'
          simp only at q2
          cases eg : g ev' h1 with
          | none => rw [eg] at q2; exact q2
          | some r =>
            obtain ⟨r, h4⟩ := r
            rw [eg] at q2
            cases r with
            | nx e3 => exact fun m3 H3 σ3 x3 hr3 rs3 => ⟨m3, e3, h4, rs3, hr3, AfterS.from x3 q2⟩
            | ct e3 => exact fun m3 H3 σ3 x3 hr3 rs3 => ⟨m3, e3, h4, rs3, hr3, AfterS.from x3 q2⟩
            | bk e3 => exact q2
            | ret d => exact q2
            | exc z e3 => exact q2
end
end DL
set_option Elab.async false
set_option linter.all false
set_option maxRecDepth 100000
set_option maxHeartbeats 4000000
namespace DL
open PySem PySem.Spec PyProof.Rows L2

/-! ## list comprehensions -/
def wipeE (e : Ev) : List Nat → Ev
  | [] => e
  | v :: vs => (wipeE e vs).set v none
theorem RS.wipe {K : PySem.W.Frag} {mg : Str → Option Value} {m : List Addr} {H : Hp} {e : Ev} {σ : L2.St} (h : RS K mg m H e σ) : ∀ vs : List Nat, RS K mg m H (wipeE e vs) (L2.wipe σ vs)
  | [] => h
  | v :: vs => by
    have ih := RS.wipe h vs
    refine ⟨by simp [wipeE, L2.wipe, ih.len], fun j c q => ?_⟩
    unfold wipeE at q
    by_cases hj : v = j
    · subst hj
      by_cases hl : v < (wipeE e vs).length
      · rw [List.getElem?_set_self hl] at q; cases q
      · rw [List.getElem?_eq_none (by simpa using hl)] at q; cases q
    · rw [List.getElem?_set_ne hj] at q
      obtain ⟨w, h1, h2⟩ := ih.at_ j c q
      exact ⟨w, by unfold L2.wipe; rw [List.getElem?_set_ne hj]; exact h1, h2⟩
/-- wiping forgets stores to the wiped places -/
theorem wipe_at (σ : L2.St) : ∀ (vs : List Nat) (i : Nat), (L2.wipe σ vs)[i]? = if i ∈ vs then (if i < σ.length then some none else none) else σ[i]?
  | [], i => by simp [L2.wipe]
  | v :: vs, i => by
    unfold L2.wipe
    rw [List.getElem?_set, wipe_length]
    by_cases h : v = i
    · subst h
      simp
    · rw [if_neg h, wipe_at σ vs i]
      have : i ≠ v := fun e => h e.symm
      simp [this]
theorem wipe_set {σ : L2.St} {vs : List Nat} {i : Nat} {y : Option V} (hi : i ∈ vs) : L2.wipe (σ.set i y) vs = L2.wipe σ vs := by
  apply List.ext_getElem?
  intro j
  rw [wipe_at, wipe_at, List.length_set]
  by_cases hj : j ∈ vs
  · simp [hj]
  · rw [if_neg hj, if_neg hj, List.getElem?_set_ne (fun e => hj (by rw [← e]; exact hi))]
theorem wipe_wipe {σ : L2.St} {vs : List Nat} : L2.wipe (L2.wipe σ vs) vs = L2.wipe σ vs := by
  apply List.ext_getElem?
  intro j
  rw [wipe_at, wipe_at, wipe_length]
  by_cases hj : j ∈ vs
  · simp [hj]
  · simp [hj]
theorem wipe_sets : ∀ {is : List Nat} {ws : List V} {σ : L2.St} {vs : List Nat}, (∀ i ∈ is, i ∈ vs) → L2.wipe (setsV σ is ws) vs = L2.wipe σ vs
  | [], ws, _, _, _ => by cases ws <;> rfl
  | i :: is, [], _, _, _ => rfl
  | i :: is, w :: ws, σ, vs, h => by
    show L2.wipe (setsV (σ.set i (some w)) is ws) vs = _
    rw [wipe_sets (fun j hj => h j (List.mem_cons_of_mem _ hj)), wipe_set (h i List.mem_cons_self)]
/-- one turn: an element, or none -/
def turnM (t : Tg) (ft : Ev → M Bool) (fe : Ev → M D) (ew : Ev) (d : D) : M (Option D) := match asg t d ew with
  | some e2 => M.bind (ft e2) fun b => if b = true then M.bind (fe e2) fun y => M.pure (some y) else M.pure none
  | none => M.stuck
open Classical in
noncomputable def compS (ok : Hs → Prop) (turn : D → M (Option D)) : List D → List D → P (List D)
  | [], acc => fun hs => if ok hs then some (acc, hs) else none
  | d :: ds, acc => fun hs => if ok hs then (match turn d hs with
    | some (.ok (some y), h1) => if acc.length < sizeLine then compS ok turn ds (acc ++ [y]) h1 else none
    | some (.ok none, h1) => compS ok turn ds acc h1
    | _ => none) else none
noncomputable def compM (own : List Nat) (t : Tg) (fi : Ev → M Src) (ft : Ev → M Bool) (fe : Ev → M D) : Ev → M D := fun e => M.bind (fi e) fun src => M.bind (M.lift (compS src.ok (turnM t ft fe (wipeE e own)) src.items [])) fun xs => M.lift (newL xs)
section
variable {X : Cx} {W : WX}
abbrev WF : WX := fun _ _ _ _ => False
theorem AfterM.okOf {K : PySem.W.Frag} {mg : Str → Option Value} {W' : WX} {σ : L2.St} {m : List Addr} {H : Hp} {α : Type} {a : α} {hs' : Hs} {Q : α → List Addr → Hs → Hp → Prop} (h : ∀ m' H', Ext K m H m' H' → HR K mg m' hs' H' → Q a m' hs' H') :
    AfterM K mg W' σ m H (some (.ok a, hs')) Q := h
/-- the state within a comprehension: the list at D holds what is made so far -/
structure LcP (K : PySem.W.Frag) (mg : Str → Option Value) (m0 : List Addr) (H0 : Hp) (Dl : Addr) (acc : List D) (m : List Addr) (hs : Hs) (H : Hp) : Prop where
  x : Ext K m0 H0 m H
  hr : HR K mg m hs H
  out : Dl ∉ m
  at_ : ∃ vs, H Dl = some (.lst vs) ∧ RVs K mg m H acc vs
theorem lcP_on {K : PySem.W.Frag} {mg : Str → Option Value} {m0 m m' : List Addr} {H0 H H' : Hp} {Dl : Addr} {acc : List D} {hs hs' : Hs} (p : LcP K mg m0 H0 Dl acc m hs H) (e : Ext K m H m' H') (hr : HR K mg m' hs' H') : LcP K mg m0 H0 Dl acc m' hs' H' := by
  obtain ⟨vs, h1, h2⟩ := p.at_
  refine ⟨p.x.trans e, hr, fun h => ?_, vs, e.keep _ _ h1 p.out, h2.mono e⟩
  rcases e.new _ h with q | q
  · exact p.out q
  · rw [h1] at q; cases q
theorem lcP_add {K : PySem.W.Frag} {mg : Str → Option Value} {m0 m : List Addr} {H0 H : Hp} {Dl : Addr} {acc : List D} {hs : Hs} {y : D} {v : V} (h0 : H0 Dl = none) (p : LcP K mg m0 H0 Dl acc m hs H) (r : RV K mg m H y v) {vs : List V} (h1 : H Dl = some (.lst vs)) (h2 : RVs K mg m H acc vs) :
    LcP K mg m0 H0 Dl (acc ++ [y]) m hs (upd H Dl (.lst (vs ++ [v]))) := by
  have wk : Wk K m H m (upd H Dl (.lst (vs ++ [v]))) := ⟨⟨[], by simp⟩, fun a xs h => by
      rcases h with (h | ⟨o, h⟩) | h
      · exact .inl (.inl (by rw [upd_ne fun z => by subst z; rw [h1] at h; cases h]; exact h))
      · exact .inl (.inr ⟨o, by rw [upd_ne fun z => by subst z; rw [h1] at h; cases h]; exact h⟩)
      · exact .inr h, fun a o u h => by rw [upd_ne fun z => by subst z; rw [h1] at h; cases h]; exact h, fun a fs h => by rw [upd_ne fun z => by subst z; rw [h1] at h; cases h]; exact h⟩
  refine ⟨⟨p.x.pre, fun b o h hn => by rw [upd_ne fun z => by subst z; rw [h0] at h; cases h]; exact p.x.keep b o h hn, p.x.new, fun a xs h => wk.tup a xs (p.x.tup a xs h), fun a o u h => wk.frz a o u (p.x.frz a o u h), fun a fs h => wk.xd a fs (p.x.xd a fs h)⟩, ?_, p.out, vs ++ [v], upd_same, ?_⟩
  · refine ⟨p.hr.len, p.hr.nd, fun n o a e1 e2 => ?_⟩
    have q := p.hr.ob n o a e1 e2
    have hne : a ≠ Dl := fun z => p.out (by rw [← z]; exact List.mem_of_getElem? e2)
    cases o with
    | lst xs => obtain ⟨ws, a1, a2⟩ := q; exact ⟨ws, by rw [upd_ne hne]; exact a1, a2.monoW wk⟩
    | dct _ => obtain ⟨ks, a1, a2⟩ := q; exact ⟨ks, by rw [upd_ne hne]; exact a1, a2.monoW wk⟩
    | dcn _ => obtain ⟨ks, a1, a2, a3, a4⟩ := q; exact ⟨ks, by rw [upd_ne hne]; exact a1, a2, a3, a4.monoW wk⟩
    | ins c fs => obtain ⟨C, dx, ws, a0, a1, a2, a3⟩ := q; exact ⟨C, dx, ws, a0, by rw [upd_ne hne]; exact a1, a2.monoW wk, a3⟩
    | set _ => exact q.elim
  · exact (h2.monoW wk).append (RVs.cons (r.monoW wk) (RVs.nil_iff.mpr rfl))
variable {elt tg iter : Expr} {ifs : List Expr} {scope : Scope} {own : List (Str × Nat)} {pos spos : Pos} {fi : Ev → M Src} {t : Tg} {ft : Ev → M Bool} {fe : Ev → M D}
abbrev DTs (X : Cx) (W : WX) (ifs : List Expr) (f : Ev → M Bool) : Prop := PTs X ifs (tT X.K X.mg W f)
theorem RO.monoW {K : PySem.W.Frag} {mg : Str → Option Value} {m m' : List Addr} {H H' : Hp} (e : Wk K m H m' H') {o : O} {a : Addr} (h : RO K mg m H o a) (ha : H' a = H a) : RO K mg m' H' o a := by
  cases o with
  | lst xs => obtain ⟨vs, h1, h2⟩ := h; exact ⟨vs, by rw [ha]; exact h1, h2.monoW e⟩
  | dct _ => obtain ⟨ks, h1, h2⟩ := h; exact ⟨ks, by rw [ha]; exact h1, h2.monoW e⟩
  | dcn _ => obtain ⟨ks, h1, h2, h3, h4⟩ := h; exact ⟨ks, by rw [ha]; exact h1, h2, h3, h4.monoW e⟩
  | ins c fs => obtain ⟨C, dx, vs, h0, h1, h2, h3⟩ := h; exact ⟨C, dx, vs, h0, by rw [ha]; exact h1, h2.monoW e, h3⟩
  | set _ => exact h.elim
/-- the list is ours at the end -/
theorem lcP_end {K : PySem.W.Frag} {mg : Str → Option Value} {m0 m : List Addr} {H0 H : Hp} {Dl : Addr} {acc : List D} {hs : Hs} (h0 : H0 Dl = none) (p : LcP K mg m0 H0 Dl acc m hs H) :
    Ext K m0 H0 (m ++ [Dl]) H ∧ HR K mg (m ++ [Dl]) (hs ++ [.lst acc]) H ∧ RV K mg (m ++ [Dl]) H (.loc hs.length) (.ref Dl) := by
  obtain ⟨vs, h1, h2⟩ := p.at_
  have wk : Wk K m H (m ++ [Dl]) H := ⟨⟨[Dl], rfl⟩, fun _ _ h => h, fun _ _ _ h => h, fun _ _ h => h⟩
  have hl := p.hr.len
  obtain ⟨t, ht⟩ := p.x.pre
  refine ⟨⟨⟨t ++ [Dl], by rw [ht]; simp⟩, p.x.keep, fun b hb => ?_, p.x.tup, p.x.frz, p.x.xd⟩, ⟨by simp [hl], ?_, fun n u a e1 e2 => ?_⟩, by simp only [RV]; exact ⟨Dl, rfl, by simp [← hl]⟩⟩
  · rcases List.mem_append.mp hb with hb | hb
    · exact p.x.new b hb
    · obtain rfl : b = Dl := by simpa using hb
      exact .inr h0
  · refine List.nodup_append.mpr ⟨p.hr.nd, by simp, fun a ha b hb q => ?_⟩
    obtain rfl : b = Dl := by simpa using hb
    subst q
    exact p.out ha
  · by_cases hn : n < m.length
    · rw [List.getElem?_append_left hn] at e2
      rw [List.getElem?_append_left (by omega)] at e1
      exact (p.hr.ob n u a e1 e2).monoW wk rfl
    · rw [List.getElem?_append_right (by omega)] at e1 e2
      have hz : n - m.length = 0 := by
        have := (List.getElem?_eq_some_iff.mp e2).1
        simpa using this
      rw [hz] at e2
      rw [← hl, hz] at e1
      simp at e1 e2
      subst e1 e2
      exact ⟨vs, h1, h2.monoW wk⟩
theorem lc_read (hsl : ∀ i ∈ t.slots, i ∈ own.map (·.2)) {σ : L2.St} {H : Hp} {Q : VK} (h : tE X.K X.mg W (compM (own.map (·.2)) t fi ft fe) σ H Q) :
    tLc (tI X.K X.mg W fi) (gD X.K X.mg t) (tT X.K X.mg WF ft) (tE X.K X.mg WF fe) (own.map (·.2)) σ H Q := by
  obtain ⟨m, ev, hs, rs, hr, q⟩ := h
  refine ⟨m, ev, hs, rs, hr, q.bind.mono fun src m1 hs1 H1 e1 hr1 q1 J j Dl hD => ?_⟩
  have rs1 := rs.mono e1
  generalize hvs : own.map (·.2) = vs at *
  have x0 : Ext X.K m1 H1 m1 (upd H1 Dl (.lst [])) := Ext.upd_new hD
  -- the whole run, once
  obtain ⟨ys, hs2, ec⟩ : ∃ ys hs2, compS src.ok (turnM t ft fe (wipeE ev vs)) src.items [] hs1 = some (ys, hs2) := by
    obtain ⟨ys, hs2, e, _⟩ := q1.bind.lift
    exact ⟨ys, hs2, e⟩
  have fin : ∀ m' H', LcP X.K X.mg m1 H1 Dl ys m' hs2 H' → Q (.ref Dl) H' := fun m' H' p => by
    obtain ⟨a1, a2, a3⟩ := lcP_end hD p
    have q2 : AfterM X.K X.mg W σ m1 H1 (some (Except.ok (D.loc hs2.length), hs2 ++ [O.lst ys])) fun d m' _ H' => ∀ v, RV X.K X.mg m' H' d v → Q v H' := by
      have e : M.bind (M.lift (compS src.ok (turnM t ft fe (wipeE ev vs)) src.items [])) (fun xs => M.lift (newL xs)) hs1 = some (Except.ok (D.loc hs2.length), hs2 ++ [O.lst ys]) := by
        unfold M.bind M.lift
        rw [ec]
        rfl
      rw [← e]
      exact q1
    exact q2 (m' ++ [Dl]) H' a1 a2 _ a3
  refine ⟨fun i k H' => k = src.items.length - i ∧ i ≤ src.items.length ∧ ∃ m' hs' acc, LcP X.K X.mg m1 H1 Dl acc m' hs' H' ∧ compS src.ok (turnM t ft fe (wipeE ev vs)) (src.items.drop i) acc hs' = some (ys, hs2),
    ⟨_, rfl, Nat.zero_le _, m1, hs1, [], ⟨x0, hr1.upd_new hD, hr1.fresh hD, [], upd_same, RVs.nil_iff.mpr rfl⟩, by simpa using ec⟩, ?_⟩
  rintro i k H' ⟨rfl, hi', m', hs', acc, p, q'⟩
  by_cases hlt : i < src.items.length
  · have hd : src.items.drop i = src.items[i] :: src.items.drop (i + 1) := List.drop_eq_getElem_cons hlt
    rw [hd] at q'
    simp only [compS] at q'
    split at q'
    · rename_i ok
      refine .inr ⟨j.go i m' hs' H' hlt p.x.wk p.hr ok, fun H2 => ∃ m2 hs3 acc2, LcP X.K X.mg m1 H1 Dl acc2 m2 hs3 H2 ∧ compS src.ok (turnM t ft fe (wipeE ev vs)) (src.items.drop (i + 1)) acc2 hs3 = some (ys, hs2),
        fun H2 h2 => ⟨_, by omega, rfl, hlt, h2⟩, fun v H2 y => ?_⟩
      obtain ⟨d, hd2, x2, hr2, rd⟩ := j.yl i m' hs' H' v H2 p.x.wk p.hr ok y hlt
      have ed : src.items[i] = d := by
        rw [List.getElem?_eq_getElem hlt] at hd2
        exact Option.some.inj hd2
      rw [ed] at q'
      have p2 := lcP_on p x2 hr2
      have rw2 : RS X.K X.mg m' H2 (wipeE ev vs) (L2.wipe σ vs) := ((rs1.mono p.x).mono x2).wipe vs
      cases et : turnM t ft fe (wipeE ev vs) d hs' with
      | none => rw [et] at q'; cases q'
      | some r =>
        obtain ⟨r, h1⟩ := r
        rw [et] at q'
        cases r with
        | error x => cases q'
        | ok o =>
          unfold turnM at et
          cases ea : asg t d (wipeE ev vs) with
          | none => rw [ea] at et; cases et
          | some e2 =>
            rw [ea] at et
            simp only [M.bind] at et
            refine ⟨m', wipeE ev vs, d, e2, rw2, rd, ea, fun is ws his r2 => ⟨?_, ?_⟩⟩
            · rw [wipe_sets (fun i hi => hsl i (by rw [his]; exact hi)), wipe_wipe]
            · refine ⟨m', e2, hs', r2, hr2, ?_⟩
              cases ef : ft e2 hs' with
              | none => rw [ef] at et; cases et
              | some z =>
                obtain ⟨z, h2⟩ := z
                rw [ef] at et
                cases z with
                | error x => cases et
                | ok b =>
                  intro m3 H3 x3 hr3
                  simp only at et
                  cases b with
                  | false =>
                    rw [if_neg Bool.false_ne_true] at et ⊢
                    cases et
                    exact ⟨m3, h1, acc, lcP_on p2 x3 hr3, q'⟩
                  | true =>
                    rw [if_pos rfl] at et ⊢
                    refine ⟨m3, e2, h2, r2.mono x3, hr3, ?_⟩
                    unfold M.bind at et
                    cases eg : fe e2 h2 with
                    | none => rw [eg] at et; cases et
                    | some z =>
                      obtain ⟨z, h4⟩ := z
                      rw [eg] at et
                      cases z with
                      | error x => cases et
                      | ok y =>
                        cases et
                        intro m4 H4 x4 hr4 v4 r4
                        simp only at q'
                        split at q'
                        · have p4 := lcP_on (lcP_on p2 x3 hr3) x4 hr4
                          obtain ⟨us, a1, a2⟩ := p4.at_
                          exact ⟨us, a1, by rw [← a2.length]; assumption, m4, h1, acc ++ [y], lcP_add hD p4 r4 a1 a2, q'⟩
                        · cases q'
    · cases q'
  · have e : i = src.items.length := by omega
    subst e
    rw [List.drop_length] at q'
    simp only [compS] at q'
    split at q'
    · rename_i ok
      cases q'
      exact .inl ⟨j.st m' _ H' p.x.wk p.hr ok, fin m' H' p⟩
    · cases q'
theorem de_lc (hc : X.calm = true) (hN : X.N.Nodup) (hi : DI X W tg iter fi) (ok : BlkOk X.N X.env.scope scope own) (hsl : ∀ i ∈ t.slots, i ∈ own.map (·.2))
    (hg : ∀ (s : Shared) (H : Hp) (C : Addr) (cl : List (Str × Addr)) (fp : List Addr), PG (X.blk s H scope (compEnvC scope cl C X.env) fp) tg (gD X.K X.mg t))
    (ht : ∀ (s : Shared) (H : Hp) (C : Addr) (cl : List (Str × Addr)) (fp : List Addr), DTs (X.blk s H scope (compEnvC scope cl C X.env) fp) WF ifs ft)
    (he : ∀ (s : Shared) (H : Hp) (C : Addr) (cl : List (Str × Addr)) (fp : List Addr), DE (X.blk s H scope (compEnvC scope cl C X.env) fp) WF elt fe) (hs : ∀ x, foldedSetIterable iter X.env x = pure x) :
    DE X W (.ListComp elt [⟨tg, iter, ifs, 0⟩] scope pos) (compM (own.map (·.2)) t fi ft fe) := (pe_lc hc hN hi ok hg ht he hs).imp fun _ _ _ h => lc_read hsl h
theorem ds_setLc {i : Nat} {y : Str} {py : Pos} (hc : X.calm = true) (hN : X.N.Nodup) (hy : X.N[i]? = some y) (hyl : X.env.scope.names.lookup y = some .local)
    (hsw : swapsWith (.ListComp elt [⟨tg, iter, ifs, 0⟩] scope pos) (some (.Name y py)) spos.line X.env = pure true) (hi : DI X W tg iter fi) (ok : BlkOk X.N X.env.scope scope own) (hsl : ∀ i ∈ t.slots, i ∈ own.map (·.2))
    (hg : ∀ (s : Shared) (H : Hp) (C : Addr) (cl : List (Str × Addr)) (fp : List Addr), PG (X.blk s H scope (compEnvC scope cl C X.env) fp) tg (gD X.K X.mg t))
    (ht : ∀ (s : Shared) (H : Hp) (C : Addr) (cl : List (Str × Addr)) (fp : List Addr), DTs (X.blk s H scope (compEnvC scope cl C X.env) fp) WF ifs ft)
    (he : ∀ (s : Shared) (H : Hp) (C : Addr) (cl : List (Str × Addr)) (fp : List Addr), DE (X.blk s H scope (compEnvC scope cl C X.env) fp) WF elt fe) (hs : ∀ x, foldedSetIterable iter X.env x = pure x) :
    DS X W (.Assign [.Name y py] (.ListComp elt [⟨tg, iter, ifs, 0⟩] scope pos) spos) (asgS (.one i) (compM (own.map (·.2)) t fi ft fe)) :=
  (ps_setLc hc hN hy hyl hsw hi ok hg ht he hs).imp fun D σ H ⟨m, ev, hs, rs, hr, q⟩ => lc_read hsl ⟨m, ev, hs, rs, hr, (q.expr rs).mono fun d m1 hs1 H1 e1 hr1 q1 v rv => q1 m1 H1 _ .refl hr1 ((rs.mono e1).set rv i)⟩

/-! two clauses -/
/-- a turn of the first clause: what the second one gathers -/
noncomputable def turn2 (t : Tg) (ft : Ev → M Bool) (fi1 : Ev → M Src) (t1 : Tg) (ft1 : Ev → M Bool) (fe : Ev → M D) (vs1 : List Nat) (ew : Ev) (d : D) (acc : List D) : P (List D) := fun hs => match asg t d ew with
  | some e2 => (match ft e2 hs with
    | some (.ok true, h1) => (match fi1 e2 h1 with
      | some (.ok src, h2) => compS src.ok (turnM t1 ft1 fe (wipeE e2 vs1)) src.items acc h2
      | _ => none)
    | some (.ok false, h1) => some (acc, h1)
    | _ => none)
  | none => none
open Classical in
noncomputable def comp2S (ok : Hs → Prop) (turn : D → List D → P (List D)) : List D → List D → P (List D)
  | [], acc => fun hs => if ok hs then some (acc, hs) else none
  | d :: ds, acc => fun hs => if ok hs then (match turn d acc hs with
    | some (acc2, h1) => comp2S ok turn ds acc2 h1
    | none => none) else none
noncomputable def comp2M (own vs1 : List Nat) (t : Tg) (fi : Ev → M Src) (ft : Ev → M Bool) (t1 : Tg) (fi1 : Ev → M Src) (ft1 : Ev → M Bool) (fe : Ev → M D) : Ev → M D := fun e => M.bind (fi e) fun src => M.bind (M.lift (comp2S src.ok (turn2 t ft fi1 t1 ft1 fe vs1 (wipeE e own)) src.items [])) fun xs => M.lift (newL xs)
section
variable {X : Cx} {W : WX} {elt tg iter tg1 iter1 : Expr} {ifs ifs1 : List Expr} {scope : Scope} {own : List (Str × Nat)} {vs1 : List Nat} {pos spos : Pos} {fi fi1 : Ev → M Src} {t t1 : Tg} {ft ft1 : Ev → M Bool} {fe : Ev → M D}
theorem lcP_wk {K : PySem.W.Frag} {m : List Addr} {H : Hp} {Dl : Addr} {vs : List V} {v : V} (h1 : H Dl = some (.lst vs)) : Wk K m H m (upd H Dl (.lst (vs ++ [v]))) :=
  ⟨⟨[], by simp⟩, fun a xs h => by
      rcases h with (h | ⟨o, h⟩) | h
      · exact .inl (.inl (by rw [upd_ne fun z => by subst z; rw [h1] at h; cases h]; exact h))
      · exact .inl (.inr ⟨o, by rw [upd_ne fun z => by subst z; rw [h1] at h; cases h]; exact h⟩)
      · exact .inr h, fun a o u h => by rw [upd_ne fun z => by subst z; rw [h1] at h; cases h]; exact h, fun a fs h => by rw [upd_ne fun z => by subst z; rw [h1] at h; cases h]; exact h⟩
theorem _root_.DL.Wk.trans {K : PySem.W.Frag} {m m1 m2 : List Addr} {H H1 H2 : Hp} (a : Wk K m H m1 H1) (b : Wk K m1 H1 m2 H2) : Wk K m H m2 H2 := by
  obtain ⟨t, rfl⟩ := a.pre
  obtain ⟨u, rfl⟩ := b.pre
  exact ⟨⟨t ++ u, by simp⟩, fun c xs h => b.tup c xs (a.tup c xs h), fun c o u h => b.frz c o u (a.frz c o u h), fun c u h => b.xd c u (a.xd c u h)⟩
theorem lc2_read (hsl : ∀ i ∈ t.slots, i ∈ own.map (·.2)) (hsl1 : ∀ i ∈ t1.slots, i ∈ vs1) {σ : L2.St} {H : Hp} {Q : VK} (h : tE X.K X.mg W (comp2M (own.map (·.2)) vs1 t fi ft t1 fi1 ft1 fe) σ H Q) :
    tLc2 (tI X.K X.mg W fi) (gD X.K X.mg t) (tT X.K X.mg WF ft) (tI X.K X.mg WF fi1) (gD X.K X.mg t1) (tT X.K X.mg WF ft1) (tE X.K X.mg WF fe) (own.map (·.2)) vs1 σ H Q := by
  obtain ⟨m, ev, hs, rs, hr, q⟩ := h
  refine ⟨m, ev, hs, rs, hr, q.bind.mono fun src m1 hs1 H1 e1 hr1 q1 J j Dl hD => ?_⟩
  have rs1 := rs.mono e1
  generalize hvs : own.map (·.2) = vs at *
  have x0 : Ext X.K m1 H1 m1 (upd H1 Dl (.lst [])) := Ext.upd_new hD
  obtain ⟨TT, hTT⟩ : ∃ TT, TT = turn2 t ft fi1 t1 ft1 fe vs1 (wipeE ev vs) := ⟨_, rfl⟩
  rw [← hTT] at q1
  obtain ⟨ys, hs2, ec⟩ : ∃ ys hs2, comp2S src.ok TT src.items [] hs1 = some (ys, hs2) := by
    obtain ⟨ys, hs2, e, _⟩ := q1.bind.lift
    exact ⟨ys, hs2, e⟩
  have fin : ∀ m' H', LcP X.K X.mg m1 H1 Dl ys m' hs2 H' → Q (.ref Dl) H' := fun m' H' p => by
    obtain ⟨a1, a2, a3⟩ := lcP_end hD p
    have q2 : AfterM X.K X.mg W σ m1 H1 (some (Except.ok (D.loc hs2.length), hs2 ++ [O.lst ys])) fun d m' _ H' => ∀ v, RV X.K X.mg m' H' d v → Q v H' := by
      have e : M.bind (M.lift (comp2S src.ok TT src.items [])) (fun xs => M.lift (newL xs)) hs1 = some (Except.ok (D.loc hs2.length), hs2 ++ [O.lst ys]) := by
        unfold M.bind M.lift
        rw [ec]
        rfl
      rw [← e]
      exact q1
    exact q2 (m' ++ [Dl]) H' a1 a2 _ a3
  refine ⟨fun i k H' => k = src.items.length - i ∧ i ≤ src.items.length ∧ ∃ m' hs' acc, LcP X.K X.mg m1 H1 Dl acc m' hs' H' ∧ comp2S src.ok TT (src.items.drop i) acc hs' = some (ys, hs2),
    ⟨_, rfl, Nat.zero_le _, m1, hs1, [], ⟨x0, hr1.upd_new hD, hr1.fresh hD, [], upd_same, RVs.nil_iff.mpr rfl⟩, by simpa using ec⟩, ?_⟩
  rintro i k H' ⟨rfl, hi', m', hs', acc, p, q'⟩
  by_cases hlt : i < src.items.length
  · have hd : src.items.drop i = src.items[i] :: src.items.drop (i + 1) := List.drop_eq_getElem_cons hlt
    rw [hd] at q'
    simp only [comp2S] at q'
    split at q'
    · rename_i ok
      refine .inr ⟨j.go i m' hs' H' hlt p.x.wk p.hr ok, fun H2 => ∃ m2 hs3 acc2, LcP X.K X.mg m1 H1 Dl acc2 m2 hs3 H2 ∧ comp2S src.ok TT (src.items.drop (i + 1)) acc2 hs3 = some (ys, hs2),
        fun H2 h2 => ⟨_, by omega, rfl, hlt, h2⟩, fun v H2 y => ?_⟩
      obtain ⟨d, hd2, x2, hr2, rd⟩ := j.yl i m' hs' H' v H2 p.x.wk p.hr ok y hlt
      have ed : src.items[i] = d := by
        rw [List.getElem?_eq_getElem hlt] at hd2
        exact Option.some.inj hd2
      rw [ed] at q'
      have p2 := lcP_on p x2 hr2
      have rw2 : RS X.K X.mg m' H2 (wipeE ev vs) (L2.wipe σ vs) := ((rs1.mono p.x).mono x2).wipe vs
      cases et : TT d acc hs' with
      | none => rw [et] at q'; cases q'
      | some r =>
        obtain ⟨acc2, h1⟩ := r
        rw [et] at q'
        simp only at q'
        rw [hTT] at et
        unfold turn2 at et
        cases ea : asg t d (wipeE ev vs) with
        | none => rw [ea] at et; cases et
        | some e2 =>
          rw [ea] at et
          simp only at et
          refine ⟨m', wipeE ev vs, d, e2, rw2, rd, ea, fun is ws his r2 => ⟨?_, ?_⟩⟩
          · rw [wipe_sets (fun i hi => hsl i (by rw [his]; exact hi)), wipe_wipe]
          · refine ⟨m', e2, hs', r2, hr2, ?_⟩
            cases ef : ft e2 hs' with
            | none => rw [ef] at et; cases et
            | some z =>
              obtain ⟨z, h2⟩ := z
              rw [ef] at et
              cases z with
              | error x => cases et
              | ok b =>
                intro m3 H3 x3 hr3
                cases b with
                | false =>
                  rw [if_neg Bool.false_ne_true]
                  cases et
                  exact ⟨m3, h1, acc, lcP_on p2 x3 hr3, q'⟩
                | true =>
                  rw [if_pos rfl]
                  simp only at et
                  refine ⟨m3, e2, h2, r2.mono x3, hr3, ?_⟩
                  cases eg : fi1 e2 h2 with
                  | none => rw [eg] at et; cases et
                  | some z =>
                    obtain ⟨z, h3⟩ := z
                    rw [eg] at et
                    cases z with
                    | error x => cases et
                    | ok src1 =>
                      simp only at et
                      intro m4 H4 x4 hr4 J1 j1
                      have p4 := lcP_on (lcP_on p2 x3 hr3) x4 hr4
                      have r4 := (r2.mono x3).mono x4
                      refine ⟨fun i1 k1 H' => k1 = src1.items.length - i1 ∧ i1 ≤ src1.items.length ∧ ∃ m' hs' acc', LcP X.K X.mg m1 H1 Dl acc' m' hs' H' ∧ Wk X.K m4 H4 m' H' ∧ compS src1.ok (turnM t1 ft1 fe (wipeE e2 vs1)) (src1.items.drop i1) acc' hs' = some (acc2, h1),
                        ⟨_, rfl, Nat.zero_le _, m4, h3, acc, p4, Ext.refl.wk, by simpa using et⟩, ?_⟩
                      rintro i1 k1 H5 ⟨rfl, hi1, m5, hs5, acc5, p5, w5, q5⟩
                      by_cases hlt1 : i1 < src1.items.length
                      · have hd1 : src1.items.drop i1 = src1.items[i1] :: src1.items.drop (i1 + 1) := List.drop_eq_getElem_cons hlt1
                        rw [hd1] at q5
                        simp only [compS] at q5
                        split at q5
                        · rename_i ok1
                          refine .inr ⟨j1.go i1 m5 hs5 H5 hlt1 w5 p5.hr ok1, fun H2 => ∃ m2 hs3 acc', LcP X.K X.mg m1 H1 Dl acc' m2 hs3 H2 ∧ Wk X.K m4 H4 m2 H2 ∧ compS src1.ok (turnM t1 ft1 fe (wipeE e2 vs1)) (src1.items.drop (i1 + 1)) acc' hs3 = some (acc2, h1),
                            fun H2 h2 => ⟨_, by omega, rfl, hlt1, h2⟩, fun v1 H6 y1 => ?_⟩
                          obtain ⟨d1, hd3, x6, hr6, rd6⟩ := j1.yl i1 m5 hs5 H5 v1 H6 w5 p5.hr ok1 y1 hlt1
                          have ed1 : src1.items[i1] = d1 := by
                            rw [List.getElem?_eq_getElem hlt1] at hd3
                            exact Option.some.inj hd3
                          rw [ed1] at q5
                          have p6 := lcP_on p5 x6 hr6
                          have w6 := w5.trans x6.wk
                          have rw6 : RS X.K X.mg m5 H6 (wipeE e2 vs1) (L2.wipe (setsV (L2.wipe σ vs) is ws) vs1) := (r4.monoW w6).wipe vs1
                          cases et1 : turnM t1 ft1 fe (wipeE e2 vs1) d1 hs5 with
                          | none => rw [et1] at q5; cases q5
                          | some r =>
                            obtain ⟨r, h6⟩ := r
                            rw [et1] at q5
                            cases r with
                            | error x => cases q5
                            | ok o =>
                              unfold turnM at et1
                              cases ea1 : asg t1 d1 (wipeE e2 vs1) with
                              | none => rw [ea1] at et1; cases et1
                              | some e3 =>
                                rw [ea1] at et1
                                simp only [M.bind] at et1
                                refine ⟨m5, wipeE e2 vs1, d1, e3, rw6, rd6, ea1, fun is1 ws1 his1 r7 => ⟨?_, ?_⟩⟩
                                · rw [wipe_sets (fun i hi => hsl1 i (by rw [his1]; exact hi)), wipe_wipe]
                                · refine ⟨m5, e3, hs5, r7, hr6, ?_⟩
                                  cases ef1 : ft1 e3 hs5 with
                                  | none => rw [ef1] at et1; cases et1
                                  | some z =>
                                    obtain ⟨z, h7⟩ := z
                                    rw [ef1] at et1
                                    cases z with
                                    | error x => cases et1
                                    | ok b =>
                                      intro m8 H8 x8 hr8
                                      simp only at et1
                                      cases b with
                                      | false =>
                                        rw [if_neg Bool.false_ne_true] at et1 ⊢
                                        cases et1
                                        exact ⟨m8, h6, acc5, lcP_on p6 x8 hr8, w6.trans x8.wk, q5⟩
                                      | true =>
                                        rw [if_pos rfl] at et1 ⊢
                                        refine ⟨m8, e3, h7, r7.mono x8, hr8, ?_⟩
                                        unfold M.bind at et1
                                        cases eg1 : fe e3 h7 with
                                        | none => rw [eg1] at et1; cases et1
                                        | some z =>
                                          obtain ⟨z, h9⟩ := z
                                          rw [eg1] at et1
                                          cases z with
                                          | error x => cases et1
                                          | ok y =>
                                            cases et1
                                            intro m9 H9 x9 hr9 v9 r9
                                            simp only at q5
                                            split at q5
                                            · have p9 := lcP_on (lcP_on p6 x8 hr8) x9 hr9
                                              obtain ⟨us, a1, a2⟩ := p9.at_
                                              exact ⟨us, a1, by rw [← a2.length]; assumption, m9, h6, acc5 ++ [y], lcP_add hD p9 r9 a1 a2, ((w6.trans x8.wk).trans x9.wk).trans (lcP_wk a1), q5⟩
                                            · cases q5
                        · cases q5
                      · have e : i1 = src1.items.length := by omega
                        subst e
                        rw [List.drop_length] at q5
                        simp only [compS] at q5
                        split at q5
                        · rename_i ok1
                          cases q5
                          exact .inl ⟨j1.st m5 _ H5 w5 p5.hr ok1, m5, _, _, p5, q'⟩
                        · cases q5
    · cases q'
  · have e : i = src.items.length := by omega
    subst e
    rw [List.drop_length] at q'
    simp only [comp2S] at q'
    split at q'
    · rename_i ok
      cases q'
      exact .inl ⟨j.st m' _ H' p.x.wk p.hr ok, fin m' H' p⟩
    · cases q'
end

section
variable {X : Cx} {W : WX} {elt tg iter tg1 iter1 : Expr} {ifs ifs1 : List Expr} {scope : Scope} {own : List (Str × Nat)} {vs1 : List Nat} {pos spos : Pos} {fi fi1 : Ev → M Src} {t t1 : Tg} {ft ft1 : Ev → M Bool} {fe : Ev → M D}
theorem de_lc2 (hc : X.calm = true) (hN : X.N.Nodup) (hi : DI X W tg iter fi) (ok : BlkOk X.N X.env.scope scope own) (hsl : ∀ i ∈ t.slots, i ∈ own.map (·.2)) (hsl1 : ∀ i ∈ t1.slots, i ∈ own.map (·.2))
    (hg : ∀ (s : Shared) (H : Hp) (C : Addr) (cl : List (Str × Addr)) (fp : List Addr), PG (X.blk s H scope (compEnvC scope cl C X.env) fp) tg (gD X.K X.mg t))
    (ht : ∀ (s : Shared) (H : Hp) (C : Addr) (cl : List (Str × Addr)) (fp : List Addr), DTs (X.blk s H scope (compEnvC scope cl C X.env) fp) WF ifs ft)
    (hi1 : ∀ (s : Shared) (H : Hp) (C : Addr) (cl : List (Str × Addr)) (fp : List Addr), DI (X.blk s H scope (compEnvC scope cl C X.env) fp) WF tg1 iter1 fi1)
    (hg1 : ∀ (s : Shared) (H : Hp) (C : Addr) (cl : List (Str × Addr)) (fp : List Addr), PG (X.blk s H scope (compEnvC scope cl C X.env) fp) tg1 (gD X.K X.mg t1))
    (ht1 : ∀ (s : Shared) (H : Hp) (C : Addr) (cl : List (Str × Addr)) (fp : List Addr), DTs (X.blk s H scope (compEnvC scope cl C X.env) fp) WF ifs1 ft1)
    (he : ∀ (s : Shared) (H : Hp) (C : Addr) (cl : List (Str × Addr)) (fp : List Addr), DE (X.blk s H scope (compEnvC scope cl C X.env) fp) WF elt fe) (hs : ∀ x, foldedSetIterable iter X.env x = pure x) (hs1 : ∀ env x, foldedSetIterable iter1 env x = pure x) :
    DE X W (.ListComp elt [⟨tg, iter, ifs, 0⟩, ⟨tg1, iter1, ifs1, 0⟩] scope pos) (comp2M (own.map (·.2)) t1.slots t fi ft t1 fi1 ft1 fe) := (pe_lc2 hc hN hi ok hsl1 hg ht hi1 hg1 ht1 he hs hs1).imp fun _ _ _ h => lc2_read hsl (fun _ h => h) h
theorem ds_setLc2 {i : Nat} {y : Str} {py : Pos} (hc : X.calm = true) (hN : X.N.Nodup) (hy : X.N[i]? = some y) (hyl : X.env.scope.names.lookup y = some .local)
    (hsw : swapsWith (.ListComp elt [⟨tg, iter, ifs, 0⟩, ⟨tg1, iter1, ifs1, 0⟩] scope pos) (some (.Name y py)) spos.line X.env = pure true) (hi : DI X W tg iter fi) (ok : BlkOk X.N X.env.scope scope own) (hsl : ∀ i ∈ t.slots, i ∈ own.map (·.2)) (hsl1 : ∀ i ∈ t1.slots, i ∈ own.map (·.2))
    (hg : ∀ (s : Shared) (H : Hp) (C : Addr) (cl : List (Str × Addr)) (fp : List Addr), PG (X.blk s H scope (compEnvC scope cl C X.env) fp) tg (gD X.K X.mg t))
    (ht : ∀ (s : Shared) (H : Hp) (C : Addr) (cl : List (Str × Addr)) (fp : List Addr), DTs (X.blk s H scope (compEnvC scope cl C X.env) fp) WF ifs ft)
    (hi1 : ∀ (s : Shared) (H : Hp) (C : Addr) (cl : List (Str × Addr)) (fp : List Addr), DI (X.blk s H scope (compEnvC scope cl C X.env) fp) WF tg1 iter1 fi1)
    (hg1 : ∀ (s : Shared) (H : Hp) (C : Addr) (cl : List (Str × Addr)) (fp : List Addr), PG (X.blk s H scope (compEnvC scope cl C X.env) fp) tg1 (gD X.K X.mg t1))
    (ht1 : ∀ (s : Shared) (H : Hp) (C : Addr) (cl : List (Str × Addr)) (fp : List Addr), DTs (X.blk s H scope (compEnvC scope cl C X.env) fp) WF ifs1 ft1)
    (he : ∀ (s : Shared) (H : Hp) (C : Addr) (cl : List (Str × Addr)) (fp : List Addr), DE (X.blk s H scope (compEnvC scope cl C X.env) fp) WF elt fe) (hs : ∀ x, foldedSetIterable iter X.env x = pure x) (hs1 : ∀ env x, foldedSetIterable iter1 env x = pure x) :
    DS X W (.Assign [.Name y py] (.ListComp elt [⟨tg, iter, ifs, 0⟩, ⟨tg1, iter1, ifs1, 0⟩] scope pos) spos) (asgS (.one i) (comp2M (own.map (·.2)) t1.slots t fi ft t1 fi1 ft1 fe)) :=
  (ps_setLc2 hc hN hy hyl hsw hi ok hsl1 hg ht hi1 hg1 ht1 he hs hs1).imp fun D σ H ⟨m, ev, hs, rs, hr, q⟩ => lc2_read hsl (fun _ h => h) ⟨m, ev, hs, rs, hr, (q.expr rs).mono fun d m1 hs1 H1 e1 hr1 q1 v rv => q1 m1 H1 _ .refl hr1 ((rs.mono e1).set rv i)⟩
end

theorem ixN_nat0 {n : Nat} {i : Int} (h0 : 0 ≤ i) (h : i < n) : ixN n i = some i.toNat := by
  unfold ixN
  rw [if_pos h0, if_pos h]
/-! ## methods of built-in types -/
def isDct (hs : Hs) : D → Bool
  | .loc n => (match hs[n]? with
    | some (.dct _) => true
    | some (.dcn _) => true
    | _ => false)
  | _ => false
def chkTy (T : String) (d : D) : M Unit := fun hs => if (tyD hs d = some T ∧ (T = "list" ∨ T = "str")) ∨ (T = "dict" ∧ isDct hs d = true) then some (.ok (), hs) else none
/-- the value is of that type: a dict of tuples' keys too -/
def tyW (K : PySem.W.Frag) (T : String) (x : V) (H : Hp) : Prop := tyV K T x H ∨ (T = "dict" ∧ ∃ a xs, x = .ref a ∧ DN K H a xs)
section
variable {X : Cx}
theorem tyW_is {pins : List (Addr × Obj)} {σ : L2.St} {H : Hp} {s : Shared} {T : String} {x : V} {v : Value} (I : Inv X pins σ H s) (r : RelV x v) (ty : tyW X.K T x H) :
    s.TypeIs v T ∧ ∀ a, v = .ref a → ∃ ob, s.heap.get? a = some ob ∧ ob.dict = none := by
  rcases ty with ty | ⟨rfl, a, xs, rfl, dn⟩
  · exact tyV_is I r ty
  · cases r
    have dd := dn_of I dn
    refine ⟨dd.typeIs, fun b e => ?_⟩
    cases e
    obtain ⟨o, es, ep, e, ex, _⟩ := dd
    exact ⟨o, e, ex.2.1⟩
def tBMW0 (K : PySem.W.Frag) (T : String) (r : V → List V → Hp → VK → Prop) (to : TE) : TE := fun σ H Q => to σ H fun x H1 => tyW K T x H1 ∧ r x [] H1 Q
def tBMW (K : PySem.W.Frag) (T : String) (r : V → List V → Hp → VK → Prop) (to : TE) (t : TA) : TE := fun σ H Q => to σ H fun x H1 => tyW K T x H1 ∧ t σ H1 fun xs H2 => r x xs H2 Q
variable {o e : Expr} {es : List Expr} {to : TE} {t : TA} {name : Str} {apos cpos : Pos} {T id : String} {r : V → List V → Hp → VK → Prop}
theorem pe_bmW0 (pa : PlainAttrs T) (slot : Slot T name id) (hty : typeOf (.builtin id) = pure (.type "method_descriptor")) (hm : MtR X id r) (ho : PE X o to)
    (hbase : attributeBase o name X.env (eval o X.env) = eval o X.env := by rfl) (hline : (apos.endLine == cpos.line) = true := by rfl) : PE X (.Call (.Attribute o name apos) [] [] cpos) (tBMW0 X.K T r to) := by
  refine ⟨fun pins s σ H Q I h => ?_⟩
  refine wpAny_Call_method0_late hbase hline (thn (ho.run pins s σ H _ I h) fun v s1 ⟨x, H1, I1, r1, ty, q1⟩ => ?_)
  obtain ⟨h1, h2⟩ := tyW_is I1 r1 ty
  exact ⟨T, id, pa, slot, hty, h1, h2, Calls.callWith_builtin rfl (PySem.evalArgs_none (hm pins s1 σ H1 x [] v [] Q I1 r1 .nil q1))⟩
theorem pe_bmW (pa : PlainAttrs T) (slot : Slot T name id) (hty : typeOf (.builtin id) = pure (.type "method_descriptor")) (hm : MtR X id r) (ho : PE X o to) (ha : PA X (e :: es) t)
    (hbase : attributeBase o name X.env (eval o X.env) = eval o X.env := by rfl)
    (hfew : ((backTo cpos (starEach (e :: es) X.env)).all (fun x => !x.1) && (backToKw cpos (keywordEach [] X.env)).all (fun x => x.1.isSome)
      && decide ((e :: es).length + ([] : List Keyword).length + (if ([] : List Keyword).isEmpty then 0 else 1) < 30)) = true := by rfl)
    (hline : (apos.endLine == cpos.line) = true := by rfl) (hs : starEach (e :: es) X.env = (false, eval e X.env) :: starEach es X.env := by rfl) (hplain : (backTo cpos (starEach es X.env)).any (·.1) = false := by rfl) :
    PE X (.Call (.Attribute o name apos) (e :: es) [] cpos) (tBMW X.K T r to t) := by
  refine ⟨fun pins s σ H Q I h => ?_⟩
  refine wpAny_Call_method_late hbase hfew hline rfl (thn (ho.run pins s σ H _ I h) fun v s1 ⟨x, H1, I1, r1, ty, q1⟩ => ?_)
  obtain ⟨h1, h2⟩ := tyW_is I1 r1 ty
  refine ⟨T, id, pa, slot, hty, h1, h2, ?_⟩
  have hA := ha.run cpos pins s1 σ H1 _ I1 q1
  rw [hs] at hA ⊢
  refine Calls.callWith_builtin (by show (false || (backTo cpos (starEach es X.env)).any (·.1)) = false; rw [hplain] <;> rfl) (Calls.evalArgs_plain ?_)
  exact thn hA fun us s2 ⟨vs, H2, I2, r2, q2⟩ => hm pins s2 σ H2 x vs v us Q I2 r1 r2 q2
end
theorem tyV_of {K : PySem.W.Frag} {mg : Str → Option Value} {m : List Addr} {H : Hp} {hs : Hs} {d : D} {v : V} {T : String} (hr : HR K mg m hs H) (r : RV K mg m H d v) (h : tyD hs d = some T) (hT : T = "list" ∨ T = "str") : tyV K T v H := by
  cases d with
  | non => cases h; rcases hT with h | h <;> exact absurd h (by decide)
  | bl b => cases h; rcases hT with h | h <;> exact absurd h (by decide)
  | int i => cases h; rcases hT with h | h <;> exact absurd h (by decide)
  | str x => cases h; obtain rfl := rv_str r; rfl
  | tup xs => cases h; rcases hT with h | h <;> exact absurd h (by decide)
  | frl xs => cases h; obtain ⟨a, vs, rfl, h1, _⟩ := rv_frl r; exact .inl ⟨rfl, vs, h1.sql⟩
  | loc n =>
    obtain ⟨a, rfl, hm⟩ := rv_loc r
    simp only [tyD] at h
    split at h
    · rename_i xs e
      cases h
      obtain ⟨vs, h1, h2⟩ := hr.lst_at hm e
      exact .inl ⟨rfl, vs, SqL.of h1⟩
    · cases h; rcases hT with h | h <;> exact absurd h (by decide)
    · cases h
  | glo _ => cases h
  | exv => cases h
  | ty _ => cases h
def methM (T : String) (f : D → List D → P D) (fo : Ev → M D) (fs : Ev → M (List D)) : Ev → M D := fun e => M.bind (fo e) fun x => M.bind (chkTy T x) fun _ => M.bind (fs e) fun xs => M.lift (f x xs)
def rMt (K : PySem.W.Frag) (mg : Str → Option Value) (f : D → List D → P D) : V → List V → Hp → VK → Prop := fun x vs H Q => ∃ m hs a ds d hs', HR K mg m hs H ∧ RV K mg m H a x ∧ RVs K mg m H ds vs ∧ f a ds hs = some (d, hs') ∧ Bk K mg m H d hs' Q
variable {o a : Expr} {es : List Expr} {fo : Ev → M D} {fs : Ev → M (List D)} {name : Str} {apos cpos : Pos} {T id : String} {f : D → List D → P D}
theorem chk_ok {K : PySem.W.Frag} {mg : Str → Option Value} {W : WX} {σ : L2.St} {m : List Addr} {H : Hp} {hs : Hs} {d : D} {v : V} {Q : Unit → List Addr → Hs → Hp → Prop} (h : AfterM K mg W σ m H (chkTy T d hs) Q) (hr : HR K mg m hs H) (r : RV K mg m H d v) : tyW K T v H ∧ Q () m hs H := by
  unfold chkTy at h
  split at h
  · rename_i hc
    refine ⟨?_, h m H .refl hr⟩
    rcases hc with hc | ⟨rfl, hc⟩
    · exact .inl (tyV_of hr r hc.1 hc.2)
    · unfold isDct at hc
      split at hc
      · obtain ⟨a, rfl, hm⟩ := rv_loc r
        split at hc
        · rename_i e
          obtain ⟨ks, h1, _⟩ := hr.ob _ _ _ e hm
          exact .inl (.inr (.inr (.inl ⟨rfl, .inl ⟨_, h1⟩⟩)))
        · rename_i e
          obtain ⟨xs, dn, _⟩ := hr.dcn_at hm e
          exact .inr ⟨rfl, a, xs, rfl, dn⟩
        · cases hc
      · cases hc
  · exact h.elim
theorem de_bm (pa : PlainAttrs T) (slot : Slot T name id) (hty : typeOf (.builtin id) = pure (.type "method_descriptor")) (hm : MtR X id (rMt X.K X.mg f)) (ho : DE X W o fo) (ha : DA X W (a :: es) fs) (hb : plainBase o = true) (hp : plainArgs (a :: es) = true)
    (hl : (a :: es).length < 30) (hline : (apos.endLine == cpos.line) = true) : DE X W (.Call (.Attribute o name apos) (a :: es) [] cpos) (methM T f fo fs) := by
  have hp' := hp
  simp only [plainArgs, Bool.and_eq_true] at hp'
  refine (pe_bmW pa slot hty hm ho ha (base_plain hb) ?_ hline (star_cons hp'.1) (any_plain hp'.2)).imp fun σ H Q ⟨m, ev, hs, rs, hr, q⟩ => ⟨m, ev, hs, rs, hr, q.bind.mono fun x m1 hs1 H1 e1 hr1 q1 v rv => ?_⟩
  · rw [all_plain hp]
    simp [backToKw, keywordEach]
    simpa using hl
  · obtain ⟨ty, q2⟩ := chk_ok q1.bind hr1 rv
    refine ⟨ty, m1, ev, hs1, rs.mono e1, hr1, q2.bind.mono fun xs m2 hs2 H2 e2 hr2 q3 vs rvs => ?_⟩
    obtain ⟨d, hs3, e, k⟩ := q3.lift
    exact ⟨m2, hs2, x, xs, d, hs3, hr2, rv.mono e2, rvs, e, fun m' H' v e hr r => k m' H' e hr v r⟩
theorem de_bm0 (pa : PlainAttrs T) (slot : Slot T name id) (hty : typeOf (.builtin id) = pure (.type "method_descriptor")) (hm : MtR X id (rMt X.K X.mg f)) (ho : DE X W o fo) (hb : plainBase o = true)
    (hline : (apos.endLine == cpos.line) = true) : DE X W (.Call (.Attribute o name apos) [] [] cpos) (methM T f fo fun _ => M.pure []) := by
  refine (pe_bmW0 pa slot hty hm ho (base_plain hb) hline).imp fun σ H Q ⟨m, ev, hs, rs, hr, q⟩ => ⟨m, ev, hs, rs, hr, q.bind.mono fun x m1 hs1 H1 e1 hr1 q1 v rv => ?_⟩
  obtain ⟨ty, q2⟩ := chk_ok q1.bind hr1 rv
  obtain ⟨d, hs3, e, k⟩ := (q2.bind.pure hr1).lift
  exact ⟨ty, m1, hs1, x, [], d, hs3, hr1, rv, RVs.nil_iff.mpr rfl, e, fun m' H' v e hr r => k m' H' e hr v r⟩
def appendD (x : D) (ds : List D) : P D := fun hs => match x, ds with
  | .loc n, [d] => match hs[n]? with
    | some (.lst xs) => if xs.length < sizeLine then some (.non, hs.set n (.lst (xs ++ [d]))) else none
    | _ => none
  | _, _ => none
theorem appendD_ok : MtR X "list.append" (rMt X.K X.mg appendD) := by
  intro pins s σ H x vs v us Q I rx rvs h
  obtain ⟨m, hs, a, ds, d, hs', hr, ra, rds, hf, k⟩ := h
  unfold appendD at hf
  split at hf
  · rename_i n y
    split at hf
    · rename_i xs e
      split at hf
      · rename_i hz
        cases hf
        obtain ⟨p, rfl, hm⟩ := rv_loc ra
        obtain ⟨w, rfl, rw⟩ := rvs1 rds
        obtain ⟨ws, h1, h2⟩ := hr.lst_at hm e
        have x := Ext.write (K := X.K) (u := .lst (ws ++ [w])) hm h1 lst_plain
        refine mt_append pins s σ H _ _ v us Q I rx rvs ⟨p, ws, w, rfl, rfl, h1, by rw [← h2.length]; exact hz, ?_⟩
        exact k m _ _ x (hr.write hm h1 lst_plain ⟨_, upd_same, (h2.mono x).append (RVs.cons (rw.mono x) (RVs.nil_iff.mpr rfl))⟩) mk_non
      · cases hf
    · cases hf
  · cases hf
def extendD (x : D) (ds : List D) : P D := fun hs => match x, ds with
  | .loc n, [.loc k] => match hs[n]?, hs[k]? with
    | some (.lst xs), some (.lst ys) => if xs.length + ys.length ≤ sizeLine then some (.non, hs.set n (.lst (xs ++ ys))) else none
    | _, _ => none
  | _, _ => none
theorem extendD_ok : MtR X "list.extend" (rMt X.K X.mg extendD) := by
  intro pins s σ H x vs v us Q I rx rvs h
  obtain ⟨m, hs, a, ds, d, hs', hr, ra, rds, hf, k⟩ := h
  unfold extendD at hf
  split at hf
  · rename_i n j
    split at hf
    · rename_i xs ys e e2
      split at hf
      · rename_i hz
        cases hf
        obtain ⟨p, rfl, hm⟩ := rv_loc ra
        obtain ⟨w, rfl, rw⟩ := rvs1 rds
        obtain ⟨p2, rfl, hm2⟩ := rv_loc rw
        obtain ⟨ws, h1, h2⟩ := hr.lst_at hm e
        obtain ⟨zs, h3, h4⟩ := hr.lst_at hm2 e2
        have x := Ext.write (K := X.K) (u := .lst (ws ++ zs)) hm h1 lst_plain
        have l1 := h2.length
        have l2 := h4.length
        refine mt_extend pins s σ H _ _ v us Q I rx rvs ⟨p, p2, ws, zs, rfl, rfl, h1, h3, by omega, ?_⟩
        exact k m _ _ x (hr.write hm h1 lst_plain ⟨_, upd_same, (h2.mono x).append (h4.mono x)⟩) mk_non
      · cases hf
    · cases hf
  · cases hf
def popD (x : D) (ds : List D) : P D := fun hs => match x, ds with
  | .loc n, [] => match hs[n]? with
    | some (.lst xs) => match xs[xs.length - 1]? with
      | some y => some (y, hs.set n (.lst xs.dropLast))
      | none => none
    | _ => none
  | _, _ => none
theorem RVs.dropLast {K : PySem.W.Frag} {mg : Str → Option Value} {m : List Addr} {H : Hp} {xs : List D} {vs : List V} (h : RVs K mg m H xs vs) : RVs K mg m H xs.dropLast vs.dropLast := by
  rw [List.dropLast_eq_take, List.dropLast_eq_take, ← h.length]
  exact h.take _
theorem popD_ok : MtR X "list.pop" (rMt X.K X.mg popD) := by
  intro pins s σ H x vs v us Q I rx rvs h
  obtain ⟨m, hs, a, ds, d, hs', hr, ra, rds, hf, k⟩ := h
  unfold popD at hf
  split at hf
  · rename_i n
    split at hf
    · rename_i xs e
      split at hf
      · rename_i y ey
        cases hf
        obtain ⟨p, rfl, hm⟩ := rv_loc ra
        rw [RVs.nil_iff] at rds
        subst rds
        obtain ⟨ws, h1, h2⟩ := hr.lst_at hm e
        have x := Ext.write (K := X.K) (u := .lst ws.dropLast) hm h1 lst_plain
        obtain ⟨w, hw, rw⟩ := h2.get ey
        refine mt_pop pins s σ H _ _ v us Q I rx rvs ⟨p, ws, w, rfl, rfl, h1, by rw [← h2.length]; exact hw, ?_⟩
        exact k m _ _ x (hr.write hm h1 lst_plain ⟨_, upd_same, (h2.mono x).dropLast⟩) (rw.mono x)
      · cases hf
    · cases hf
  · cases hf
def popAtD (x : D) (ds : List D) : P D := fun hs => match x, ds with
  | .loc n, [.int i] => match hs[n]? with
    | some (.lst xs) => if 0 ≤ i ∧ i < xs.length ∧ i < 2 ^ 62 then (match xs[i.toNat]? with
      | some y => some (y, hs.set n (.lst (xs.eraseIdx i.toNat)))
      | none => none) else none
    | _ => none
  | _, _ => none
theorem RVs.eraseIdx {K : PySem.W.Frag} {mg : Str → Option Value} {m : List Addr} {H : Hp} : ∀ {xs : List D} {vs : List V} (i : Nat), RVs K mg m H xs vs → RVs K mg m H (xs.eraseIdx i) (vs.eraseIdx i)
  | [], _, _, h => by rw [RVs.nil_iff] at h; subst h; exact RVs.nil_iff.mpr rfl
  | x :: xs, _, 0, h => by
    obtain ⟨v, r, rfl, q1, q2⟩ := RVs.cons_iff.mp h
    exact q2
  | x :: xs, _, i + 1, h => by
    obtain ⟨v, r, rfl, q1, q2⟩ := RVs.cons_iff.mp h
    exact RVs.cons q1 (RVs.eraseIdx i q2)
theorem popAtD_ok : MtR X "list.pop" (rMt X.K X.mg popAtD) := by
  intro pins s σ H x vs v us Q I rx rvs h
  obtain ⟨m, hs, a, ds, d, hs', hr, ra, rds, hf, k⟩ := h
  unfold popAtD at hf
  split at hf
  · rename_i n i
    split at hf
    · rename_i xs e
      split at hf
      · rename_i hi
        split at hf
        · rename_i y ey
          cases hf
          obtain ⟨p, rfl, hm⟩ := rv_loc ra
          obtain ⟨w, rfl, rw⟩ := rvs1 rds
          obtain rfl := rv_int rw
          obtain ⟨ws, h1, h2⟩ := hr.lst_at hm e
          have hl := h2.length
          have x := Ext.write (K := X.K) (u := .lst (ws.eraseIdx i.toNat)) hm h1 lst_plain
          obtain ⟨w, hw, rw⟩ := h2.get ey
          refine mt_popAt pins s σ H _ _ v us Q I rx rvs ⟨p, ws, i, i.toNat, w, rfl, rfl, h1, by omega, by omega, (ixN_seq (ixN_nat0 hi.1 (by omega))).1, hw, ?_⟩
          exact k m _ _ x (hr.write hm h1 lst_plain ⟨_, upd_same, (h2.mono x).eraseIdx _⟩) (rw.mono x)
        · cases hf
      · cases hf
    · cases hf
  · cases hf
def indexD (x : D) (ds : List D) : P D := fun hs => match ds with
  | [y] => match x.data hs, y.data hs with
    | some (.list ps), some p => if (SeqAt.shaped (.list ps) && SeqAt.shaped p) = true then (match ps.findIdx? (fun z => PyData.eqv z p) with
      | some j => some (.int (j : Nat), hs)
      | none => none) else none
    | _, _ => none
  | _ => none
theorem dp_list_ref {K : PySem.W.Frag} {H : Hp} {v : V} {ps : List PyData} (h : Dp K H v (.list ps)) : ∃ a, v = .ref a := by
  cases h
  exact ⟨_, rfl⟩
theorem indexD_ok (hu : X.A.units + 65 < cLine) : MtR X "list.index" (rMt X.K X.mg indexD) := by
  intro pins s σ H x vs v us Q I rx rvs h
  obtain ⟨m, hs, a, ds, d, hs', hr, ra, rds, hf, k⟩ := h
  unfold indexD at hf
  split at hf
  · rename_i y
    split at hf
    · rename_i ps p e1 e2
      split at hf
      · rename_i hc
        rw [Bool.and_eq_true] at hc
        split at hf
        · rename_i j ej
          cases hf
          obtain ⟨w, rfl, rw⟩ := rvs1 rds
          have d1 := data_ok hr e1 ra
          have d2 := data_ok hr e2 rw
          obtain ⟨b, rfl⟩ := dp_list_ref d1
          obtain ⟨hj, q1, q2⟩ := List.findIdx?_eq_some_iff_getElem.mp ej
          refine mt_indexD hu pins s σ H _ _ v us Q I rx rvs ⟨b, w, p, ps, j, ps[j], rfl, rfl, d1, d2, hc.1, hc.2, by simp [hj], q1, fun i z hi hz => ?_, k.here hr mk_int⟩
          have hl : i < ps.length := by omega
          rw [List.getElem?_eq_getElem hl] at hz
          obtain rfl := Option.some.inj hz
          simpa using q2 i hi
        · cases hf
      · cases hf
    · cases hf
  · cases hf
/-! texts -/
/-- texts alone -/
def strsD : List D → Option (List Str)
  | [] => some []
  | .str x :: ds => (strsD ds).map (x :: ·)
  | _ :: _ => none
theorem strsD_rv {K : PySem.W.Frag} {mg : Str → Option Value} {m : List Addr} {H : Hp} : ∀ {ds : List D} {ns : List Str} {vs : List V}, strsD ds = some ns → RVs K mg m H ds vs → vs = ns.map .str
  | [], _, _, h, r => by cases h; rw [RVs.nil_iff] at r; subst r; rfl
  | d :: ds, _, _, h, r => by
    obtain ⟨v, w, rfl, r1, r2⟩ := RVs.cons_iff.mp r
    cases d <;> simp only [strsD] at h <;> try cases h
    obtain ⟨ns, e, rfl⟩ := Option.map_eq_some_iff.mp h
    obtain rfl := rv_str r1
    rw [strsD_rv e r2]
    rfl
def itemsOf (hs : Hs) : D → Option (List D)
  | .tup xs => some xs
  | d => listOf hs d
def joinOk (a : Str) (ys : List Str) : Prop := (ys.map (·.length)).sum + ys.length * a.length ≤ 16777216
open Classical in
noncomputable def joinD (x : D) (ds : List D) : P D := fun hs => match x, ds with
  | .str a, [d] => match itemsOf hs d with
    | some xs => match strsD xs with
      | some ys => if joinOk a ys then some (.str (Txt.join a ys), hs) else none
      | none => none
    | none => none
  | _, _ => none
theorem joinD_ok : MtR X "str.join" (rMt X.K X.mg joinD) := by
  intro pins s σ H x vs v us Q I rx rvs h
  obtain ⟨m, hs, a, ds, d, hs', hr, ra, rds, hf, k⟩ := h
  unfold joinD at hf
  split at hf
  · rename_i z y
    split at hf
    · rename_i xs ex
      split at hf
      · rename_i ys ey
        split at hf
        · rename_i hj
          cases hf
          obtain rfl := rv_str ra
          obtain ⟨w, rfl, rw⟩ := rvs1 rds
          have q : ∃ p, w = .ref p ∧ (SqL X.K H p (ys.map V.str) ∨ SqT X.K H p (ys.map V.str)) := by
            unfold itemsOf at ex
            split at ex
            · cases ex
              obtain ⟨p, ws, rfl, h1, h2⟩ := rv_tup rw
              rw [strsD_rv ey h2] at h1
              exact ⟨p, rfl, .inr h1⟩
            · obtain ⟨p, ws, rfl, h1, h2⟩ := list_of hr rw ex
              rw [strsD_rv ey h2] at h1
              exact ⟨p, rfl, .inl h1⟩
          obtain ⟨p, rfl, hp⟩ := q
          exact mt_join pins s σ H _ _ v us Q I rx rvs ⟨z, p, ys, rfl, rfl, hp, hj, k.here hr mk_str⟩
        · cases hf
      · cases hf
    · cases hf
  · cases hf
def splitD (x : D) (ds : List D) : P D := fun hs => match x, ds with
  | .str a, [.str b] => if (b.length == 0) = false ∧ a.length + 2 ≤ sizeLine then newL ((Txt.split a b).map D.str) hs else none
  | _, _ => none
theorem rvs_strs {K : PySem.W.Frag} {mg : Str → Option Value} {m : List Addr} {H : Hp} : ∀ ys : List Str, RVs K mg m H (ys.map D.str) (ys.map V.str)
  | [] => RVs.nil_iff.mpr rfl
  | y :: ys => RVs.cons mk_str (rvs_strs ys)
theorem splitD_ok : MtR X "str.split" (rMt X.K X.mg splitD) := by
  intro pins s σ H x vs v us Q I rx rvs h
  obtain ⟨m, hs, a, ds, d, hs', hr, ra, rds, hf, k⟩ := h
  unfold splitD at hf
  split at hf
  · rename_i z y
    split at hf
    · rename_i hc
      cases hf
      obtain rfl := rv_str ra
      obtain ⟨w, rfl, rw⟩ := rvs1 rds
      obtain rfl := rv_str rw
      exact mt_split pins s σ H _ _ v us Q I rx rvs ⟨z, y, rfl, rfl, hc.1, hc.2, fun p hp => k.lst hr (rvs_strs _) hp⟩
    · cases hf
  · cases hf
end
end DL
set_option Elab.async false
set_option linter.all false
set_option maxRecDepth 100000
set_option maxHeartbeats 4000000
namespace DL
open PySem PySem.Spec PyProof.Rows L2

/-! ## repr -/
def reprD (ds : List D) : P D := fun hs => match ds with
  | [d] => match d.data hs with
    | some p => if (p.showable && !p.hasDict && decide (p.depth ≤ 60) && decide (p.shown.length ≤ sizeLine)) = true then some (.str p.shown, hs) else none
    | none => none
  | _ => none
section
variable {X : Cx}
theorem reprD_ok (gd : X.A.guards = some []) (hu : X.A.units + 65 < cLine) : CallR X (.builtin "repr") (rPn X.K X.mg reprD) := by
  intro pins s σ H vs us Q I r h
  obtain ⟨m, hs, ds, d, hs', hr, rs, hf, k⟩ := h
  unfold reprD at hf
  split at hf
  · rename_i d0
    split at hf
    · rename_i p ep
      split at hf
      · rename_i hc
        cases hf
        simp only [Bool.and_eq_true, decide_eq_true_eq, Bool.not_eq_true'] at hc
        obtain ⟨⟨⟨h1, h2⟩, h3⟩, h4⟩ := hc
        obtain ⟨v, rfl, r1⟩ := rvs1 rs
        have dp := data_ok hr ep r1
        cases r with
        | cons ru rr =>
          rename_i u ut
          cases rr
          obtain ⟨as, rd⟩ := Dp.reads I p v u dp ru
          have told := k.here hr (mk_str (i := p.shown) (m := m) (H := H))
          have fin : ∀ {h' : Heap} {tk : Nat} {t : Tok}, (∀ b o, s.heap.get? b = some o → h'.get? b = some o) → EP X pins σ Q (.str p.shown t) { s with heap := h', toks := tk } := fun {h' tk t} hk => ⟨.str p.shown, H, I.kept hk, ⟨t, rfl⟩, told⟩
          cases rd with
          | none => exact P.repr_of_none (fin fun _ _ e => e)
          | bool b => exact P.repr_of_bool (fin fun _ _ e => e)
          | int i t => exact P.repr_of_int (by simpa [PyData.showable] using h1) (fin fun _ _ e => e)
          | str x t => exact P.repr_of_str (fin fun _ _ e => e) h4
          | list a b c e => exact repr_of_reads' (.list a b c e) h1 (PyData.noDict_hsm h2) gd (by omega) (fun _ _ e => e) (fun h' u tk hk => fin hk) h4
          | tuple a b c e => exact repr_of_reads' (.tuple a b c e) h1 (PyData.noDict_hsm h2) gd (by omega) (fun _ _ e => e) (fun h' u tk hk => fin hk) h4
          | dict a b c e f => exact absurd h2 (by simp [PyData.hasDict])
      · cases hf
    · cases hf
  · cases hf
/-! ## {} -/
def nilDict : Ev → M D := fun _ hs => some (.ok (.loc hs.length), hs ++ [.dct []])
theorem de_nilDict {W : WX} {pos : Pos} : DE X W (.Dict [] [] pos) nilDict := pe_dnewK.imp fun σ H Q ⟨m, ev, hs, rs, hr, q⟩ p hp => by
  have x := Ext.push (K := X.K) (o := .dK []) hp (m := m)
  exact q (m ++ [p]) _ x (hr.push hp ⟨[], upd_same, rfl⟩) _ (by simp only [RV]; exact ⟨p, rfl, by rw [← hr.len]; simp⟩)
end
end DL
set_option Elab.async false
set_option linter.all false
set_option maxRecDepth 100000
set_option maxHeartbeats 4000000
namespace DL
open PySem PySem.Spec PyProof.Rows L2

/-! ## sorted(set(xs)) of ints -/
section
variable {P : Program} {w : World} {A : Around} {E : Value → Shared → Prop} {z0 : Shared}
set_option maxRecDepth 100000 in
set_option maxHeartbeats 3200000 in
theorem call_set_lstR {lx : Addr} {its0 : Array Value} (kis : List Int) {Q : Value → Shared → Prop} (hcalm : A.handled = none) (hlst : z0.heap.IsList lx its0) (hints : IntsAre its0.toList kis) (hroom : kis.length + 1 < scanBound)
    (fin : ∀ (h8 : Heap) (tk c : Nat), SetR w h8 z0.heap.objs.size (fun j => decide (j ∈ kis)) c → c ≤ kis.length → (∀ b o, z0.heap.get? b = some o → h8.get? b = some o) → Q (.ref z0.heap.objs.size) { z0 with heap := h8, toks := tk }) :
    wpAny (model P w) A (call (.type "set") [.ref lx]) Q E z0 := by
  have hsize : its0.size = kis.length := by
    have q := IntsAre.length hints
    rw [Array.length_toList] at q
    exact q
  obtain ⟨c, tl, qmro⟩ := F.called_set.mro
  have qmade := F.called_set.made
  have qsub := F.called_set.sub
  refine wpAny_call (codeAny_of_tree ?_)
  show wpAny _ _ (callAny (.type "set") _) _ _ _
  refine wpAny_pure ⟨Code.quiet_builtin _ (by decide +kernel), codeAny_builtin F.entry_type_call ?_⟩
  rw [Around.under_plain (weight_type_call_type "set" [.ref lx] []) rfl]
  have q1 := F.called_set.notType
  have q2 := F.called_set.canCreate
  have qct := F.typeCall_set_1 (.ref lx)
  repeat (any_goals (first | assumption | wp_step))

  refine codeAny_mono (code_set_led1 (.ref lx) (E := E) (Q₁ := fun ob7 z1 => ob7 = .ref z0.heap.objs.size ∧ z1 = { z0 with heap := z0.heap.push { cls := .type "set", dict := none, data := .set #[] 0 (.fresh 0 0 (!w.params.followText "set-order")) } }) ⟨rfl, rfl⟩) fun r z1 hr7 => ?_
  cases r with
  | error e => exact hr7
  | ok fl7 =>
    cases fl7 with
    | ret ob7 =>
      obtain ⟨rfl, rfl⟩ := hr7
      have qS : (z0.heap.push { cls := .type "set", dict := none, data := .set #[] 0 (.fresh 0 0 (!w.params.followText "set-order")) }).get? z0.heap.objs.size = some { cls := .type "set", dict := none, data := .set #[] 0 (.fresh 0 0 (!w.params.followText "set-order")) } := Heap.get?_push_size _ rfl
      have qT : Shared.TypeIs { z0 with heap := z0.heap.push { cls := .type "set", dict := none, data := .set #[] 0 (.fresh 0 0 (!w.params.followText "set-order")) } } (.ref z0.heap.objs.size) "set" := ⟨_, qS, rfl⟩
      have qli := F.called_set.init.lookup
      have qbi := F.called_set.init.bind (.ref z0.heap.objs.size)
      repeat (any_goals (first | assumption | wp_step))

      refine codeAny_mono (codeAny_call_builtin (R := wants (fun r z7 => r = .none ∧ ∃ h8 tk c, z7 = { z0 with heap := h8, toks := tk } ∧ SetR w h8 z0.heap.objs.size (fun j => decide (j ∈ kis)) c ∧ c ≤ kis.length ∧
          (∀ b o, z0.heap.get? b = some o → h8.get? b = some o)) E) F.called_set.init.plain F.entry_set_init (check_set_init_1 qT ?_)) fun r8 z7 hr8 => ?_
      · obtain ⟨ol, qol, qcl, nl, qdl⟩ := hlst
        obtain ⟨c9, d9, t9, l9⟩ := ol
        simp only at qcl qdl
        subst qcl; subst qdl
        have qol9 : (z0.heap.push { cls := .type "set", dict := none, data := .set #[] 0 (.fresh 0 0 (!w.params.followText "set-order")) }).get? lx = some { cls := .type "list", dict := d9, data := .seq its0 nl, slots := l9 } := Heap.get?_push_of_some _ qol
        have qsls := F.sub_list_set
        have qslf := F.sub_list_frozenset
        have qne : (Value.type "list" == Value.type "dict") = false := by decide
        have ql1 : (z0.heap.push { cls := .type "set", dict := none, data := .set #[] 0 (.fresh 0 0 (!w.params.followText "set-order")) }).IsList lx its0 := ⟨_, qol9, rfl, nl, rfl⟩
        unfold Builtin.«set.__init__» noKeywords Builtin.Frozenset.updateFrom
        generalize qPI : pyIter = P9
        wp_walk
        subst qPI

        refine wpAny_pyIter_list ql1 ?_
        refine wpAny_bind (wpAny_runValue ?_)
        have qlS : lx < z0.heap.objs.size := Heap.lt_size qol
        have qh3 : A.in1.in1.in1.handled = none := by simp [hcalm]
        have qz1 : (z0.heap.push { cls := .type "set", dict := none, data := .set #[] 0 (.fresh 0 0 (!w.params.followText "set-order")) }).objs.size = z0.heap.objs.size + 1 := Heap.size_push ..
        have qneI : lx ≠ (z0.heap.push { cls := .type "set", dict := none, data := .set #[] 0 (.fresh 0 0 (!w.params.followText "set-order")) }).objs.size := by
          rw [Heap.size_push]; exact Nat.ne_of_lt (Nat.lt_succ_of_lt qlS)
        have qSf : z0.heap.objs.size ∉ [(z0.heap.push { cls := .type "set", dict := none, data := .set #[] 0 (.fresh 0 0 (!w.params.followText "set-order")) }).objs.size, lx] := by
          rw [Heap.size_push]; simp only [List.mem_cons, List.mem_singleton, List.not_mem_nil, or_false, not_or]
          exact ⟨Nat.ne_of_lt (Nat.lt_succ_self _), Nat.ne_of_gt qlS⟩
        have qval : ∀ (i : Nat) (v : Value), its0[i]? = some v → ∃ k t, kis[i]? = some k ∧ v = .int k t := fun i v hv => by
          have hi : i < kis.length := by rw [← hsize]; exact (Array.getElem?_eq_some_iff.mp hv).1
          obtain ⟨t, e⟩ := PyProof.Rows.IntsAre.int_at hints i v (by rw [Array.getElem?_toList]; exact hv)
          refine ⟨kis[i], t, List.getElem?_eq_getElem hi, ?_⟩
          rw [e, List.getD_eq_getElem?_getD, List.getElem?_eq_getElem hi] <;> rfl
        refine set_update_ints ((Walks.list qh3 _ lx qneI its0).toS) z0.heap.objs.size
          qSf kis hsize hroom qval (its0.size - 0) 0 _ (by omega) (Nat.zero_le _)
          ⟨⟨_, Heap.get?_push_size _ rfl, rfl, rfl⟩, (ql1.push _)⟩ ?cS0 ?cR
        case cS0 =>
          have qget : ((z0.heap.push { cls := .type "set", dict := none, data := .set #[] 0 (.fresh 0 0 (!w.params.followText "set-order")) }).push { cls := .type "list_iterator", data := .fields #[.ref lx, .int 0 0] }).get? z0.heap.objs.size
              = some { cls := .type "set", dict := none, data := .set #[] 0 (.fresh 0 0 (!w.params.followText "set-order")) } := Heap.get?_push_of_some _ qS
          exact ⟨0, Nat.le_refl 0, setR_new_at qget⟩
        case cR =>
          intro z8 n8 qm qc8 qS8
          obtain ⟨h8, g8, d8, tk8, os8⟩ := z8
          have eg8 : g8 = z0.gens := qm.gens
          have ed8 : d8 = z0.drawn := qm.drawn
          have eo8 : os8 = z0.os := qm.os
          subst eg8; subst ed8; subst eo8
          show wpAny _ _ _ _ _ _
          refine wpAny_pure ?_
          show wpAny _ _ (ret Value.none) _ _ _
          rw [hsize] at qc8
          refine wpAny_pure ⟨rfl, h8, tk8, n8, rfl, qS8, qc8, fun b o e => ?_⟩
          have qb0 : b < z0.heap.objs.size := Heap.lt_size e
          have qb1 : b ≠ z0.heap.objs.size := Nat.ne_of_lt qb0
          have qb2 : b ≠ (z0.heap.push { cls := .type "set", dict := none, data := .set #[] 0 (.fresh 0 0 (!w.params.followText "set-order")) }).objs.size := by
            rw [Heap.size_push]; exact Nat.ne_of_lt (Nat.lt_succ_of_lt qb0)
          exact qm.heap b o (by simp only [List.mem_cons, List.mem_singleton, List.not_mem_nil, or_false, not_or]; exact ⟨qb1, qb2⟩) (Heap.get?_push_of_some _ (Heap.get?_push_of_some _ e))

      · cases r8 with
        | error e => exact hr8
        | ok fl8 =>
          cases fl8 with
          | ret r =>
            obtain ⟨rfl, h8, tk, n8, rfl, qS8, qc8, hk8⟩ := hr8
            repeat (any_goals (first | assumption | wp_step))
            exact fin _ _ _ qS8 qc8 hk8
          | _ => exact hr8.elim
    | _ => exact hr7.elim

end

section
variable {X : Cx}
/-- sorted(set(xs)): the ints, each once, ascending -/
def tSortSet (K : PySem.W.Frag) (ta : TE) : TE := fun σ H Q => ta σ H fun x H1 => ∃ (l : Addr) (ks : List Int), x = V.ref l ∧ SqL K H1 l (ks.map V.int) ∧ ks.length < 64 ∧ ∀ (ms : List Int) (p : Addr), ms.Pairwise (· < ·) → (∀ k, k ∈ ms ↔ k ∈ ks) → H1 p = none → Q (.ref p) (upd H1 p (.lst (ms.map V.int)))
theorem pe_sortset {a : Expr} {ta : TE} {p p2 q pos : Pos} (hc : X.calm = true) (hg : Gl X "sorted") (hm : X.mg "sorted" = none) (hg2 : Gl X "set") (hm2 : X.mg "set" = none) (ha : PE X a ta)
    (na : starEach [a] X.env = (false, eval a X.env) :: starEach [] X.env) : PE X (.Call (.Name "sorted" p) [.Call (.Name "set" p2) [a] [] q] [] pos) (tSortSet X.K ta) := by
  refine ⟨fun pins s σ H Q I h => ?_⟩
  refine Call_ (ld_blt I hg hm PyProof.Rows.boot_sorted ?_)
  refine PyProof.Rows.callWith_builtin1 (PyProof.Rows.args_cons ?_ rfl) rfl rfl
  refine Call_ (ld_blt I hg2 hm2 PyProof.Rows.boot_set ?_)
  refine PyProof.Rows.callWith_type1 (PyProof.Rows.args_cons (thn (ha.run pins s σ H _ I h) fun v s1 ⟨x, H1, I1, r1, q1⟩ => PyProof.Rows.args_nil ?_) na) na rfl
  obtain ⟨l, ks, rfl, hq, h1, q1⟩ := q1
  cases r1
  obtain ⟨its, r, pl, hz⟩ := I1.list hq
  refine call_set_lstR ks (I1.ok.hd hc) pl.isList (by simpa using r.ints) (by unfold scanBound; omega) fun h8 tk c hS hcn hk => ?_
  refine PyProof.Rows.args_nil ?_
  have I2 : Inv X pins σ H1 { s1 with heap := h8, toks := tk } := I1.kept fun b o e => hk b o e
  have hS2 : SetR X.w ({ s1 with heap := h8, toks := tk } : Shared).heap s1.heap.objs.size (fun j => decide (j ∈ ks)) c := hS
  generalize ({ s1 with heap := h8, toks := tk } : Shared) = s2 at *
  refine sorted_set hS2 (I2.ok.hd hc) (by omega) fun z1 pn out cn ms k g o hp hgt hi hs hmm hl => ?_
  have hlen : (ms.map V.int).length ≤ sizeLine := by rw [List.length_map, hl, sizeLine_eq]; omega
  have hn : H1 pn = none := I2.hok.fresh hp
  have J : Inv X pins σ (upd H1 pn (.lst (ms.map V.int))) { s2 with heap := z1.heap, gens := z1.gens, drawn := z1.drawn, toks := z1.toks } :=
    I2.call (ch := []) (Un.laid k hp hn) (I2.hok.laid k hp ⟨hlen, out.toList, cn, vals_of_ints hi, hgt⟩) (by rw [g]; exact I2.bare) (fun _ z => nomatch z)
  have e : z1 = { s2 with heap := z1.heap, gens := z1.gens, drawn := z1.drawn, toks := z1.toks } := by
    cases z1
    cases s2
    cases o
    rfl
  rw [e]
  exact ⟨.ref pn, _, J, rfl, q1 ms pn hs (fun k => by rw [hmm k, decide_eq_true_eq]) hn⟩
end
/-! .. in the little machine -/
def insU (x : Int) : List Int → List Int
  | [] => [x]
  | y :: ys => if x < y then x :: y :: ys else if x = y then y :: ys else y :: insU x ys
/-- each once, ascending -/
def usort : List Int → List Int
  | [] => []
  | x :: xs => insU x (usort xs)
theorem insU_mem {x k : Int} : ∀ {l : List Int}, k ∈ insU x l ↔ k = x ∨ k ∈ l
  | [] => by simp [insU]
  | y :: ys => by
    unfold insU
    split
    · simp
    · split
      · rename_i e
        subst e
        simp
      · simp only [List.mem_cons, insU_mem (l := ys)]
        constructor
        · rintro (h | h | h)
          · exact .inr (.inl h)
          · exact .inl h
          · exact .inr (.inr h)
        · rintro (h | h | h)
          · exact .inr (.inl h)
          · exact .inl h
          · exact .inr (.inr h)
theorem usort_mem {k : Int} : ∀ {l : List Int}, k ∈ usort l ↔ k ∈ l
  | [] => by simp [usort]
  | x :: xs => by
    show k ∈ insU x (usort xs) ↔ _
    rw [insU_mem, usort_mem (l := xs), List.mem_cons]
theorem insU_sorted {x : Int} : ∀ {l : List Int}, l.Pairwise (· < ·) → (insU x l).Pairwise (· < ·)
  | [], _ => by simp [insU]
  | y :: ys, h => by
    obtain ⟨h1, h2⟩ := List.pairwise_cons.mp h
    unfold insU
    split
    · rename_i c
      refine List.pairwise_cons.mpr ⟨fun z hz => ?_, h⟩
      rcases List.mem_cons.mp hz with rfl | hz
      · exact c
      · have := h1 z hz; omega
    · split
      · exact h
      · rename_i c1 c2
        refine List.pairwise_cons.mpr ⟨fun z hz => ?_, insU_sorted h2⟩
        rcases insU_mem.mp hz with rfl | hz
        · omega
        · exact h1 z hz
theorem usort_sorted : ∀ {l : List Int}, (usort l).Pairwise (· < ·)
  | [] => .nil
  | x :: xs => insU_sorted (usort_sorted (l := xs))
theorem strict_unique : ∀ {a b : List Int}, a.Pairwise (· < ·) → b.Pairwise (· < ·) → (∀ k, k ∈ a ↔ k ∈ b) → a = b
  | [], [], _, _, _ => rfl
  | [], y :: ys, _, _, h => absurd ((h y).mpr List.mem_cons_self) (by simp)
  | x :: xs, [], _, _, h => absurd ((h x).mp List.mem_cons_self) (by simp)
  | x :: xs, y :: ys, ha, hb, h => by
    obtain ⟨a1, a2⟩ := List.pairwise_cons.mp ha
    obtain ⟨b1, b2⟩ := List.pairwise_cons.mp hb
    have e : x = y := by
      rcases List.mem_cons.mp ((h x).mp List.mem_cons_self) with e | q
      · exact e
      · rcases List.mem_cons.mp ((h y).mpr List.mem_cons_self) with e | r
        · exact e.symm
        · have := b1 x q; have := a1 y r; omega
    subst e
    rw [strict_unique a2 b2 fun k => ?_]
    constructor
    · intro hk
      rcases List.mem_cons.mp ((h k).mp (List.mem_cons_of_mem _ hk)) with e | q
      · have := a1 k hk; omega
      · exact q
    · intro hk
      rcases List.mem_cons.mp ((h k).mpr (List.mem_cons_of_mem _ hk)) with e | q
      · have := b1 k hk; omega
      · exact q
def sortSetD (d : D) : P D := fun hs => match listOf hs d with
  | some xs => match intsD xs with
    | some ks => if ks.length < 64 then newL ((usort ks).map .int) hs else none
    | none => none
  | none => none
def sortSetM (fa : Ev → M D) : Ev → M D := fun e => M.bind (fa e) fun d => M.lift (sortSetD d)
theorem rvs_ints {K : PySem.W.Frag} {mg : Str → Option Value} {m : List Addr} {H : Hp} : ∀ {ks : List Int}, RVs K mg m H (ks.map .int) (ks.map V.int)
  | [] => RVs.nil_iff.mpr rfl
  | k :: ks => RVs.cons mk_int rvs_ints
section
variable {X : Cx} {W : WX}
theorem de_sortset {a : Expr} {fa : Ev → M D} {p p2 q pos : Pos} (hc : X.calm = true) (hg : Gl X "sorted") (hm : X.mg "sorted" = none) (hg2 : Gl X "set") (hm2 : X.mg "set" = none) (ha : DE X W a fa)
    (na : starEach [a] X.env = (false, eval a X.env) :: starEach [] X.env) : DE X W (.Call (.Name "sorted" p) [.Call (.Name "set" p2) [a] [] q] [] pos) (sortSetM fa) := by
  refine (pe_sortset hc hg hm hg2 hm2 ha na).imp fun σ H Q ⟨m, ev, hs, rs, hr, q⟩ => ⟨m, ev, hs, rs, hr, q.bind.mono fun d m1 hs1 H1 e1 hr1 q1 v rv => ?_⟩
  obtain ⟨y, hs2, e, k⟩ := q1.lift
  unfold sortSetD at e
  split at e
  · rename_i xs el
    split at e
    · rename_i ks ek
      split at e
      · rename_i hz
        cases e
        obtain ⟨l, ws, rfl, h1, h2⟩ := list_of hr1 rv el
        obtain rfl := intsD_rv ek h2
        refine ⟨l, ks, rfl, h1, hz, fun ms p hs hm hp => ?_⟩
        have e : ms = usort ks := strict_unique hs usort_sorted fun k => by rw [hm k, usort_mem]
        rw [e]
        exact Bk.lst (Q := Q) (fun m' H' v e hr r => k m' H' e hr v r) hr1 rvs_ints hp
      · cases e
    · cases e
  · cases e
end
end DL
set_option Elab.async false
set_option linter.all false
set_option maxRecDepth 100000
set_option maxHeartbeats 4000000
namespace DL
open PySem PySem.Spec PySem.Calls PyProof.Rows PySem.W PySem.HandSPX

/-! ## an error class of the package: its __init__ says super().__init__(text), and keeps at most one thing -/
def storesOf : Option Str → List (Pos × Pos × Pos × Pos) → List Stmt
  | some f, [(a, b, c, d)] => [.Assign [.Attribute (.Name "self" a) f b] (.Name f c) d]
  | _, _ => []
def moreB (fld : Option Str) (v : Value) : List (Str × Value) := match fld with | some f => [(f, v)] | none => []
def moreA (fld : Option Str) (v : Value) : List Value := match fld with | some _ => [v] | none => []
structure ErrC (P : Program) (K : Frag) (C : Addr) (fld : Option Str) : Prop where
  T : L2.OexC K C
  kn : ∃ (fI cc cda : Addr) (qual txt file : Str) (tf : Tok) (params : Arguments) (body : List Stmt) (scope : Scope) (dV kV doc pm ct oc ccl cl : Value) (an od cdd cld : Option Addr) (osl ccs csl : Array (Option Value)) (vs : Array Value) (cd : ClassData) (ar : Arg)
      (p0 p1 p2 p3 p4 p5 : Pos) (j : Nat) (ps : List (Pos × Pos × Pos × Pos)),
    findIn K (.ref C) "__init__" = some (some (.ref fI)) ∧ typeIn K (.ref fI) = some (.type "function") ∧
    K.lookup fI = some ⟨oc, od, .func (ksFn "__init__" qual params body scope dV kV doc pm an (.ref cda) ct cc), osl⟩ ∧ codeIn K (.ref cda) qual = true ∧
    K.lookup cc = some ⟨cl, cld, .cell (some (.ref C)), csl⟩ ∧ K.lookup cda = some ⟨ccl, cdd, .fields vs, ccs⟩ ∧ vs[2]? = some (.str file tf) ∧ ((P.main.file : Str) == file) = true ∧
    mroIn K C (.ref C) = some true ∧ ks_superIn K C C "__init__" = some (some (.builtin "ValueError.__init__")) ∧ subIn K (.ref C) (.type "ValueError") = some true ∧
    nsIn K mainGlobals "super" = some none ∧ nsIn K cStatics "thirdparty.any" = some none ∧
    body = .Expr (.Call (.Attribute (.Call (.Name "super" p0) [] [] p1) "__init__" p2) [.Constant (.str txt) j p3] [] p4) p5 :: storesOf fld ps ∧ (p2.endLine == p4.line) = true ∧ (fld.isSome = true → ps.length = 1) ∧
    (∀ s u v, BindsTo s (ksFn "__init__" qual params body scope dV kV doc pm an (.ref cda) ct cc) ⟨.ref u :: moreA fld v, []⟩ (("self", .ref u) :: moreB fld v)) ∧
    (params.posonlyargs ++ params.args).head? = some ar ∧ ar.arg = "self" ∧
    scope.names.lookup ("super" : Str) = some .globalImplicit ∧ scope.names.lookup ("__class__" : Str) = some .free ∧ scope.names.lookup ("self" : Str) = some .local ∧
    (∀ f, fld = some f → scope.names.lookup f = some .local ∧ f ≠ "self" ∧ (f == ("__debug__" : Str)) = false ∧ findIn K (.ref C) f = some none) ∧
    (∀ x ∈ scope.names, x.2 ≠ .cell) ∧ scope.isCoroutine = false ∧ scope.isGenerator = false ∧ scope.kind = .function ∧ (P.main.scope.names.lookup ("super" : Str)).isSome = false

/-- the end of the def, with or without a field -/
def InitEnd (R : Result → Shared → Prop) (h : Heap) (g : Array GenState) (d : Drawn) (os : OsState) (e C : Addr) (fld : Option Str) (v : Value) : Prop :=
  match fld with
  | none => ∀ h' t1 tk', (∀ b o, b ≠ e → h.get? b = some o → h'.get? b = some o) → h'.get? e = some (excO C t1) → R (.ok (.ret .none)) ⟨h', g, d, tk', os⟩
  | some f => ∀ h' t1 tk' dx, (∀ b o, b ≠ e → h.get? b = some o → h'.get? b = some o) → h.get? dx = none → e < dx → h'.get? e = some ({ cls := .ref C, dict := some dx, data := .fields #[.ref t1, .none, .none, .none, .bool false, .none] } : Obj) →
      h'.Ns1 dx (fun y => if y = f then some v else none) → R (.ok (.ret .none)) ⟨h', g, d, tk', os⟩
theorem callWith_mw {M : Model} {A : Around} {E : Value → Shared → Prop} {s : Shared} {pos p3 : Pos} {u x : Addr} {i : String} {env : Env} {txt : Str} {j : Nat} {Q : Value → Shared → Prop} (hu : s.heap.get? u = some (kxs_mw i x))
    (h : ∀ v tk, wpAny M A (call (.ref u) [v]) Q E { s with toks := tk }) :
    wpAny M A (callWith pos (.ref u) [] (backTo pos (starEach [.Constant (.str txt) j p3] env)) []) Q E s := by
  have he : starEach [.Constant (.str txt) j p3] env = (false, eval (.Constant (.str txt) j p3) env) :: starEach [] env := rfl
  rw [he]
  refine kxs_callWith (i := i) (x := x) rfl ?_
  refine evalArgs_plain ?_
  show wpAny M A (spliced (backTo pos (starEach [.Constant (.str txt) j p3] env))) _ _ _
  exact args_cons (Constant_str (args_nil ⟨hu, h _ _⟩))
theorem call_mw {P : Program} {w : World} {A : Around} {E : Value → Shared → Prop} {h : Heap} {g : Array GenState} {d : Drawn} {t : Nat} {os : OsState} {u e C t0 N : Addr} {nm q : Str} {bs bm : List Value} {sn : List Str} {sub : List Value} {ab : Bool} {col : Option Bool} {dd : Option Addr}
    {k0 k1 k2 k3 k5 : Option Value} {v : Value} {Q : Value → Shared → Prop} (hC : h.get? C = some (excClassObj nm q C N bs bm true sn sub ab col dd k0 k1 k2 k3 k5 "ValueError.__new__")) (he : h.get? e = some (excO C t0)) (hu : h.get? u = some (kxs_mw "ValueError.__init__" e))
    (hq : ∀ h' t1, (∀ b o, b ≠ e → h.get? b = some o → h'.get? b = some o) → h'.get? e = some (excO C t1) → Q .none ⟨h', g, d, t, os⟩) : wpAny (model P w) A (call (.ref u) [v]) Q E ⟨h, g, d, t, os⟩ := by
  refine wpAny_call (codeAny_of_tree ?_)
  show wpAny _ A.in1 (callAny (.ref u) ⟨[v], []⟩) _ _ _
  simp only [callAny]
  refine wpAny_bind (wpAny_load hu ?_)
  simp only [kxs_mw, show (Value.type "method-wrapper" == Value.type "method" || Value.type "method-wrapper" == Value.type "builtin_function_or_method" || Value.type "method-wrapper" == Value.type "method-wrapper") = true by decide, if_true]
  refine KFB.if_so (by decide) ?_
  refine wpAny_bind (check_bound_init F.excBase_ValueError.toExcCallFacts hC he rfl ?_)
  refine wpAny_bind (wpAny_pure (wpAny_pure ?_))
  refine ⟨plainId_quiet F.excBase_ValueError.init.plain _, codeAny_builtin F.excBase_ValueError.initEntry ?_⟩
  exact exc_init_tree (cls := .ref C) (t0 := t0) (dv := none) (c2 := .none) (c3 := .none) (b4 := .bool false) he (show 1 ≤ sizeLine by rw [sizeLine_eq]; decide) fun h' k e' t' => hq h' _ k e'
theorem eval_meth1 {o : Expr} {name : Str} {apos pos : Pos} {c : Const} {j : Nat} {p3 : Pos} {env : Env} (hline : (apos.endLine == pos.line) = true) :
    eval (.Call (.Attribute o name apos) [.Constant c j p3] [] pos) env = (do
      let ov ← attributeBase o name env (eval o env)
      standAt apos.atName
      let (f, first) ← holding [ov] (getMethod ov name (do return (← importBound o env).getD true))
      callWith pos f first (backTo pos (starEach [.Constant c j p3] env)) []) := by
  rw [arm_eval_Call]
  have hform : methodCallForm ([Expr.Constant c j p3].length + ([] : List Keyword).length) (backTo pos (starEach [.Constant c j p3] env)) (backToKw pos (keywordEach [] env)) = true := rfl
  have hpos : methodCallPos true o env apos pos = pure pos := by unfold methodCallPos; simp [hline]
  unfold methodCall
  rw [hform, hpos]
  rfl
theorem errC_init {P : Program} {w : World} {K : Frag} {C : Addr} {fld : Option Str} (F : ErrC P K C fld) : ∃ fI, findIn K (.ref C) "__init__" = some (some (.ref fI)) ∧ typeIn K (.ref fI) = some (.type "function") ∧
    ∀ {A : Around} {R : Result → Shared → Prop} {h : Heap} {g : Array GenState} {d : Drawn} {t : Nat} {os : OsState} {e t0 : Addr} {v : Value} {mg mb : Str → Option Value}, (∀ b o, K.lookup b = some o → b ≠ e ∧ h.get? b = some o) → h.get? e = some (excO C t0) → h.Ns mainGlobals mg → h.Ns builtinsNs mb →
      (∀ x : Str, x ≠ "__name__" → mb x = bootBuiltins x) → h.NoLimit → A.depth < recursionLimit → InitEnd R h g d os e C fld v →
      codeAny (model P w) A (.call (.ref fI) ⟨.ref e :: moreA fld v, []⟩) R ⟨h, g, d, t, os⟩ := by
  obtain ⟨fI, cc, cda, qual, txt, file, tf, params, body, scope, dV, kV, doc, pm, ct, oc, ccl, cl, an, od, cdd, cld, osl, ccs, csl, vs, cd, ar, p0, p1, p2, p3, p4, p5, j, ps, iC, tI, lk, hcd, lcc, lcd, hvs, hfile, hsub, hsup, hVE, hsn, hop, hbody, hline, hps, hb, hp, har, s1, s2, s3, s4, s5, s6, s7, s8, s9⟩ := F.kn
  refine ⟨fI, iC, tI, ?_⟩
  intro A R h g d t os e t0 v mg mb X0 he hg hbn hbl lim hroom hq
  have X : K.In h := fun b o z => (X0 b o z).2
  obtain ⟨nm, q, N, bs, bm, sn, sub, ab, col, dd, k0, k1, k2, k3, k5, hC, hbm⟩ := F.T.cls
  have hcl : clsIn K C = some { name := nm, bases := bs, mro := .ref C :: bm, ns := N, qualname := q, hasDict := true, slotNames := sn, subclasses := sub, abstract := ab, collection := col, hasDel := false } := by unfold clsIn; rw [hC] <;> rfl
  refine ks_codeAny_call_defAt (fd := ksFn "__init__" qual params body scope dV kV doc pm an (.ref cda) ct cc) (body := body) hroom (X _ _ lk) rfl lim (codeRec_of X hcd) rfl (hb _ e v) s5 ?hloc (fun h₁ hns hk₁ => ?_) s6 s7 s8
  case hloc =>
    intro x hx
    rcases List.mem_cons.mp hx with rfl | hx
    · exact s3
    · cases fld with
      | none => cases hx
      | some f =>
        rcases List.mem_cons.mp hx with rfl | hx
        · exact (s4 f rfl).1
        · cases hx
  have X1 : K.In h₁ := X.keeps hk₁
  have hself : ((("self" : Str), Value.ref e) :: moreB fld v).reverse.lookup ("self" : Str) = some (Value.ref e) := by
    cases fld with
    | none => rfl
    | some f =>
      have ne := (s4 f rfl).2.1
      have : ((("self" : Str)) == f) = false := by simpa using fun e => ne e.symm
      simp [moreB, List.lookup, this]
  subst hbody
  show PySem.wpAt _ _ (.func _ (ksEnv qual scope h.objs.size fI (.ref cda) cc)) (execs _ (ksEnv qual scope h.objs.size fI (.ref cda) cc)) _ _ _
  have hni : interactive (ksEnv qual scope h.objs.size fI (.ref cda) cc) = false := by
    unfold interactive
    show (scope.kind == .module && _) = false
    rw [s8]
    rfl
  refine ks_wpAt_execs_cons (ks_wpAt_Expr_any (ks_wpAt_MethodCall ?_ (eval_meth1 hline)) hni)
  obtain ⟨oD, hD1, hD2⟩ : ∃ oD, h₁.get? C = some oD ∧ oD.data = .cls { name := nm, bases := bs, mro := .ref C :: bm, ns := N, qualname := q, hasDict := true, slotNames := sn, subclasses := sub, abstract := ab, collection := col, hasDel := false } := ⟨_, X1 _ _ hC, rfl⟩
  refine ks_wpAt_super_base (env := ksEnv qual scope h.objs.size fI (.ref cda) cc) s1 s2 (by decide) rfl (X1 _ _ lk) rfl hp rfl (X1 _ _ lcd) rfl hvs hfile s9 ?_
  refine ks_loadName_global s8 s1 (loadGlobal_builtin (env := ksEnv qual scope h.objs.size fI (.ref cda) cc) (hg.keeps hk₁) ?hsup (hbn.keeps hk₁) ((hbl _ (by decide)).trans ?hboot) ⟨rfl, ?_⟩)
  case hsup => exact mg_none_of X hg hsn
  case hboot => kernel_rfl
  refine wpAny_loadName_free s8 s2 rfl ⟨_, X1 _ _ lcc, rfl⟩ ?_
  refine wpAny_loadName_local s8 (by rw [har]; exact s3) hns (by rw [har]; exact hself) ?_
  refine ks_wpAny_isType_cls hD1 hD2 ⟨rfl, ?_⟩
  have he1 := hk₁ _ _ he
  refine ks_wpAny_call_super hD1 hD2 he1 rfl (fun c e => by cases e) (looks_mroIn X1 hsub) (fun h2 e2 k2 => ?_)
  have X2 : K.In h2 := X1.keeps k2
  have he2 := k2 _ _ he1
  have TC : Looks (model P w) h2 (typeOf (.ref e)) (.ref C) := fun A Q E s k q => wpAny_typeOf_ref (k _ _ he2) q
  have hxC : e ≠ C := fun z => by
    subst z
    have y := X _ _ hC
    rw [he] at y
    cases y
  refine kxs_getMethod kxs_ValueError e2 (looks_opaque X2 hop) (l₀ := .ref C :: bm) (fun A Q E s k q => wpAny_bind ((looks_clsIn X2 hcl) A _ E s k (wpAny_pure q))) rfl X2 ?hal (TC.andThen (looks_subIn X2 hVE)) hxC (by decide) ?_
  case hal =>
    unfold ks_superIn at hsup
    rw [hcl] at hsup
    exact hsup
  refine callWith_mw (i := "ValueError.__init__") (x := e) (Heap.get?_push_at rfl rfl) (fun u tk => ?_)
  have kp : ∀ b o, h.get? b = some o → (h2.push (kxs_mw "ValueError.__init__" e)).get? b = some o := fun b o z => Heap.get?_push_of_some _ (k2 _ _ (hk₁ _ _ z))
  refine call_mw (kp _ _ (X _ _ hC)) (kp _ _ he) (Heap.get?_push_at rfl rfl) (fun h3 t3 k3 e3 => ?_)
  have kq : ∀ b o, b ≠ e → h.get? b = some o → h3.get? b = some o := fun b o n z => k3 b o n (kp _ _ z)
  cases fld with
  | none => exact wpAt_of_wpAny (wpAny_execs_nil (hq _ _ _ kq e3))
  | some f =>
    obtain ⟨f1, f2, f3, f4⟩ := s4 f rfl
    match ps, hps rfl with
    | [(pa, pb, pc, pd)], _ =>
      have X3 : K.In h3 := fun b o z => kq b o (X0 b o z).1 (X0 b o z).2
      obtain ⟨oL, es, ep, hoL, rL⟩ := hns
      have nL : h.objs.size ≠ e := Nat.ne_of_gt (Heap.lt_size he)
      have ns3 : h3.Ns h.objs.size (fun x => ((("self" : Str), Value.ref e) :: moreB (some f) v).reverse.lookup x) := ⟨oL, es, ep, k3 _ _ nL (Heap.get?_push_of_some _ (k2 _ _ hoL)), rL⟩
      have hf : ((("self" : Str), Value.ref e) :: moreB (some f) v).reverse.lookup f = some v := by
        have : (f == f) = true := by simp
        simp [moreB, List.lookup, this]
      refine ks_wpAt_execs_cons (ks_wpAt_Assign_Attr (wpAt_of_wpAny (wpAny_Name (wpAny_loadName_local s8 f1 ns3 hf ?_) f3)) rfl)
      refine wpAny_Name (wpAny_loadName_local s8 s3 ns3 hself ?_) (by decide)
      refine set_plain X3 (ox := excO C t3) (od := none) ⟨e3, rfl, rfl, trivial⟩ F.T.sa ?_
      refine exc_osa X3 e3 hcl (show refsVE (.ref C :: bm) = true from hbm) rfl f4 (fun h4 tk4 dx k4 dn dne hx hn => ?_)
      refine wpAt_of_wpAny (wpAny_execs_nil (hq h4 t3 tk4 dx (fun b o n z => k4 b o n (kq b o n z)) ?_ (Nat.lt_of_lt_of_le (Heap.lt_size e3) dn) hx hn))
      cases z : h.get? dx with
      | none => rfl
      | some o => exact absurd (Heap.lt_size (kq _ _ dne z)) (Nat.not_lt.mpr dn)

end DL
namespace DL
open PySem PySem.Spec PyProof.Rows L2
section
variable {X : Cx} {C : Addr} {x f : Str} {e : Expr} {te : TE} {p pos : Pos}
theorem err_raises {P : Program} {fld : Option Str} (F : ErrC P X.K C fld) : Raises X (.ref C) := raises_own F.T.exC F.T.tyC
/-- C() -/
theorem call_err0 {pins : List (Addr × Obj)} {s : Shared} {σ : L2.St} {H : Hp} {Q : XK} (F : ErrC X.prog X.K C none) (hr : Room 1 X.A) (I : Inv X pins σ H s) (h : Q (.ref C) none H) : wpAny (model X.prog X.w) X.A (call (.ref C) []) (MkP X pins σ Q) X.xe s := by
  obtain ⟨nm, q, N, bs, bm, sn, sub, ab, col, dd, k0, k1, k2, k3, k5, hC, hbm⟩ := F.T.cls
  obtain ⟨fI, iC, tI, run⟩ := errC_init (w := X.w) F
  obtain ⟨hp, g, dr, tk, os⟩ := s
  obtain ⟨mb, hb1, hb2⟩ := I.mod.blt
  have kk : ∀ b o, hp.get? b = some o → ((hp.push (PySem.W.kdv_tup [])).push (PySem.HandSPX.excO C hp.objs.size)).get? b = some o := fun b o e => Heap.get?_push_of_some _ (Heap.get?_push_of_some _ e)
  have hget : ((hp.push (PySem.W.kdv_tup [])).push (PySem.HandSPX.excO C hp.objs.size)).get? (hp.objs.size + 1) = some (PySem.HandSPX.excO C hp.objs.size) := by heap_get
  have ne : ∀ {b : Addr} {o : Obj}, hp.get? b = some o → b ≠ hp.objs.size + 1 := fun z => Nat.ne_of_lt (Nat.lt_succ_of_lt (Heap.lt_size z))
  have hsz : hp.objs.size ≤ hp.objs.size + 1 := Nat.le_succ _
  refine wpAny_call (PySem.HandSPX.call_own PySem.F.excBase_ValueError (fun Y => PySem.HandSPX.refsVE_contains Y bm hbm) (I.kIn _ _ hC) (PySem.W.looks_findIn I.kIn iC) (fun self => PySem.W.bind_fn I.kIn self tI) (Nat.zero_le _)
    (run (mg := X.mg) (mb := mb) (v := .none) (fun b o z => ⟨ne (I.kIn _ _ z), kk _ _ (I.kIn _ _ z)⟩) hget ((I.mod.glob.keeps I.bk).keeps kk) ((hb1.keeps I.bk).keeps kk) hb2 ((I.mod.nolimit.keeps I.bk).keeps kk) (hr.make C [] []).depth fun h' t1 tk' k he => ?_))
  have hnone : hp.get? (hp.objs.size + 1) = none := by
    cases z : hp.get? (hp.objs.size + 1) with
    | none => rfl
    | some o => exact absurd (Heap.lt_size z) (Nat.not_lt.mpr hsz)
  refine ⟨rfl, ?_⟩
  show MkP X pins σ Q (.ref (hp.objs.size + 1)) ⟨h', g, dr, tk', os⟩
  exact ⟨_, _, _, ⟨hp, g, dr, tk, os⟩, H, .ref C, none, rfl, I, fun b o z => k b o (ne z) (kk _ _ z), hnone, he, ⟨rfl, rfl⟩, rfl, rfl, I.hok.fresh hsz, rfl, I.bare, err_raises F, h⟩
/-- C(v) -/
theorem call_err1 {pins : List (Addr × Obj)} {s : Shared} {σ : L2.St} {H : Hp} {Q : XK} {v : V} {u : Value} (F : ErrC X.prog X.K C (some f)) (hr : Room 1 X.A) (I : Inv X pins σ H s) (rv : RelV v u) (h : ∀ d, H d = none → Q (.ref C) (some d) (upd H d (.xd [(f, v)]))) :
    wpAny (model X.prog X.w) X.A (call (.ref C) [u]) (MkP X pins σ Q) X.xe s := by
  obtain ⟨nm, q, N, bs, bm, sn, sub, ab, col, dd, k0, k1, k2, k3, k5, hC, hbm⟩ := F.T.cls
  obtain ⟨fI, iC, tI, run⟩ := errC_init (w := X.w) F
  obtain ⟨hp, g, dr, tk, os⟩ := s
  obtain ⟨mb, hb1, hb2⟩ := I.mod.blt
  have kk : ∀ b o, hp.get? b = some o → ((hp.push (PySem.W.kdv_tup [u])).push (PySem.HandSPX.excO C hp.objs.size)).get? b = some o := fun b o e => Heap.get?_push_of_some _ (Heap.get?_push_of_some _ e)
  have hget : ((hp.push (PySem.W.kdv_tup [u])).push (PySem.HandSPX.excO C hp.objs.size)).get? (hp.objs.size + 1) = some (PySem.HandSPX.excO C hp.objs.size) := by heap_get
  have ne : ∀ {b : Addr} {o : Obj}, hp.get? b = some o → b ≠ hp.objs.size + 1 := fun z => Nat.ne_of_lt (Nat.lt_succ_of_lt (Heap.lt_size z))
  have hsz : hp.objs.size ≤ hp.objs.size + 1 := Nat.le_succ _
  refine wpAny_call (PySem.HandSPX.call_own PySem.F.excBase_ValueError (fun Y => PySem.HandSPX.refsVE_contains Y bm hbm) (I.kIn _ _ hC) (PySem.W.looks_findIn I.kIn iC) (fun self => PySem.W.bind_fn I.kIn self tI) (show 1 ≤ sizeLine by rw [sizeLine_eq]; decide)
    (run (mg := X.mg) (mb := mb) (v := u) (fun b o z => ⟨ne (I.kIn _ _ z), kk _ _ (I.kIn _ _ z)⟩) hget ((I.mod.glob.keeps I.bk).keeps kk) ((hb1.keeps I.bk).keeps kk) hb2 ((I.mod.nolimit.keeps I.bk).keeps kk) (hr.make C [u] []).depth fun h' t1 tk' dx k dn dlt he hns => ?_))
  have hnone : hp.get? (hp.objs.size + 1) = none := by
    cases z : hp.get? (hp.objs.size + 1) with
    | none => rfl
    | some o => exact absurd (Heap.lt_size z) (Nat.not_lt.mpr hsz)
  refine ⟨rfl, ?_⟩
  show MkP X pins σ Q (.ref (hp.objs.size + 1)) ⟨h', g, dr, tk', os⟩
  have dsz : hp.objs.size ≤ dx := Nat.le_trans hsz (Nat.le_of_lt dlt)
  have hda : dx ≠ hp.objs.size + 1 := Nat.ne_of_gt dlt
  have hd : H dx = none := I.hok.fresh dsz
  obtain ⟨G, g1', g2'⟩ := restrict h' fun b => decide (b ≠ hp.objs.size + 1)
  have gk : ∀ b, b ≠ hp.objs.size + 1 → G.get? b = h'.get? b := fun b hb => g1' b (decide_eq_true hb)
  have ge : G.get? (hp.objs.size + 1) = none := g2' _ (by simp)
  have kG : ∀ b o, hp.get? b = some o → G.get? b = some o := fun b o z => (gk b (ne z)).trans (k b o (ne z) (kk _ _ z))
  have hok : ObjOk X.prog X.w H G dx (.xd [(f, v)]) := ⟨_, hns.at fun o y => (gk dx hda).trans y, relO_put (fs := []) rv fun g => True.intro⟩
  have J : Inv X pins σ (upd H dx (.xd [(f, v)])) ⟨G, g, dr, tk, os⟩ := I.laid (t' := tk) (a := dx) (o := .xd [(f, v)]) (h' := G) kG dsz hok
  refine ⟨_, _, _, ⟨G, g, dr, tk, os⟩, _, .ref C, some dx, rfl, J, fun b o z => ?_, ge, he, ⟨rfl, rfl⟩, rfl, rfl, ?_, rfl, I.bare, err_raises F, h dx hd⟩
  · by_cases hba : b = hp.objs.size + 1
    · rw [hba, ge] at z
      cases z
    · exact (gk b hba).symm.trans z
  · rw [upd_ne (Ne.symm hda)]
    exact I.hok.fresh hsz
theorem pmk_err0 (F : ErrC X.prog X.K C none) (hr : Room 1 X.A) (hg : Gl X x) (hm : X.mg x = some (.ref C)) (hdb : (x == ("__debug__" : Str)) = false) : PMk X (.Call (.Name x p) [] [] pos) (fun _ H Q => Q (.ref C) none H) := by
  intro pins s σ H Q I h
  refine wpAny_Call_Name_kw (ld_glob I hg hm ?_ hdb)
  exact PySem.W.callWith_K0 I.kIn F.T.kC (call_err0 F hr I h)
theorem pmk_err1 (F : ErrC X.prog X.K C (some f)) (hr : Room 1 X.A) (he : PE X e te) (hg : Gl X x) (hm : X.mg x = some (.ref C)) (hdb : (x == ("__debug__" : Str)) = false) (hs : starEach [e] X.env = (false, eval e X.env) :: starEach [] X.env) :
    PMk X (.Call (.Name x p) [e] [] pos) (fun σ H Q => te σ H fun v H1 => ∀ d, H1 d = none → Q (.ref C) (some d) (upd H1 d (.xd [(f, v)]))) := by
  intro pins s σ H Q I h
  refine wpAny_Call_Name_kw (ld_glob I hg hm ?_ hdb)
  refine PySem.W.callWith_K (h₀ := X.base) I.ok.mod.kin F.T.kC ?_ hs rfl
  refine args_cons (thn (he.run pins s σ H _ I h) fun u s1 ⟨v, H1, I1, r1, q1⟩ => args_nil ⟨I1.kIn, ?_⟩) hs
  exact call_err1 F hr I1 r1 q1
end
end DL
set_option Elab.async false
set_option linter.all false
set_option maxRecDepth 100000
set_option maxHeartbeats 4000000
namespace DL
open PySem PySem.Spec PyProof.Rows L2

/-! ## try: several clauses, each with or without a name -/
def putE (o : Option Nat) (a : Addr) (σ : L2.St) : L2.St := match o with
  | none => σ
  | some i => σ.set i (some (.ref a))
def dropE (o : Option Nat) (σ : L2.St) : L2.St := match o with
  | none => σ
  | some i => σ.set i none
def goneD (o : Option Nat) (D : Ends) : Ends := { nx := fun σ H => D.nx (dropE o σ) H, rt := D.rt, bk := fun σ H => D.bk (dropE o σ) H, ct := fun σ H => D.ct (dropE o σ) H }
abbrev Cl := Value × Option Nat × (Addr → Value → Option Addr → TS)
def wAll (K : PySem.W.Frag) (Wout : WX) (D : Ends) : List Cl → WX
  | [] => Wout
  | (c, o, ts) :: r => fun cls d σ H => ∃ b, PySem.W.exmOne K cls c = some b ∧ (b = true → ∀ a, H a = none → ts a cls d (goneD o D) (putE o a σ) H) ∧ (b = false → wAll K Wout D r cls d σ H)
inductive HdsA (X : Cx) : List ExceptHandler → List Cl → Prop
  | nil : HdsA X [] []
  | plain {x : Str} {c : Value} {ts : Addr → Value → Option Addr → TS} {b₀ : Stmt} {suite : List Stmt} {np pos' : Pos} {hds : List ExceptHandler} {l : List Cl} (hc : Names X x c)
      (hsu : ∀ (a : Addr) (oe : Obj) (cls : Value) (d : Option Addr) (pn : List (Addr × Obj)), Zc cls d oe → (∃ vs, oe.data = .fields vs) → PSs (X.suite a ((a, oe) :: pn)) (b₀ :: suite) (ts a cls d)) (r : HdsA X hds l) :
      HdsA X (.ExceptHandler (some (.Name x np)) none (b₀ :: suite) pos' :: hds) ((c, none, ts) :: l)
  | named {x n : Str} {i : Nat} {c : Value} {ts : Addr → Value → Option Addr → TS} {b₀ : Stmt} {suite : List Stmt} {np pos' : Pos} {hds : List ExceptHandler} {l : List Cl} (hc : Names X x c) (hi : X.N[i]? = some n) (hln : X.env.kindOf n = some .local)
      (hsu : ∀ (a : Addr) (oe : Obj) (cls : Value) (d : Option Addr) (pn : List (Addr × Obj)), Zc cls d oe → (∃ vs, oe.data = .fields vs) → PSs (X.suite a ((a, oe) :: pn)) (b₀ :: suite) (ts a cls d)) (r : HdsA X hds l) :
      HdsA X (.ExceptHandler (some (.Name x np)) (some n) (b₀ :: suite) pos' :: hds) ((c, some i, ts) :: l)
section
variable {X : Cx} {body : List Stmt} {h₀ : ExceptHandler} {hds : List ExceptHandler} {l : List Cl} {pos : Pos} {tb : WX → TS} {Wout : WX}
theorem ps_try_all (hs : X.stack = X.env :: X.outer) (hf : X.env.frame = some X.env.locals) (hN : X.N.Nodup) (tk : Takes X Wout)
    (hb : ∀ (W : WX) (pn : List (Addr × Obj)) (xe : Value → Shared → Prop), Takes (X.tr pn xe) W → PassesOwn (model X.prog X.w) X.A X.env xe → PSs (X.tr pn xe) body (tb W))
    (hh : HdsA X (h₀ :: hds) l) : PS X (.Try body (h₀ :: hds) [] [] pos) (fun D σ H => tb (wAll X.K Wout D l) D σ H) := by
  refine ⟨fun pins s σ H D I h => ?_⟩
  have ok := I.ok
  have hfr : X.A.frames = some (X.env :: X.outer) := by rw [ok.frames, hs]
  refine wpAny_Try_except ?_
  refine wpAny_mono ((hb (wAll X.K Wout D l) (X.pn ++ pins) (fun e s₁ => wpAny (model X.prog X.w) X.A (noteFrame e X.env) (fun _ s₂ => wpAny (model X.prog X.w) X.A (setFlight e none) (fun _ s₃ =>
    wpAny (model X.prog X.w) X.A (handleBy e X.env (h₀ :: hds)) (SP X pins D) X.xe s₃) X.xe s₂) X.xe s₁) (fun u s' xx => ?_) PassesOwn.looking).run [] s σ H D (I.toTry _) h) (fun f s1 hsp => ?_) (fun e s1 he => he)
  · -- an error of the body
    obtain ⟨a, B, sI, pins', σ', H', cls, d, rfl, J', nb, up, sky, na, os, ag, w⟩ := xx
    have J : Inv X pins σ' H' sI := J'.ofTry ok
    have sky' : Sky B (X.env :: X.outer) a (Zc cls d) X.env.locals s'.heap := by rw [← hs]; exact sky
    show wpAny (model X.prog X.w) X.A (noteFrame (.ref a) X.env) _ _ _
    refine Sky.land Zc.steady hfr hf sky' fun h3 fl3 up3 => ?_
    have J3 : Inv X pins σ' H' { s' with heap := h3 } := J.landed nb fl3.1 (up.trans up3) os ag
    obtain ⟨oe3, vs3, he3, hz3, hd3⟩ := fl3.there
    have notFr : ∀ {h : Heap} {o : Obj} {vs : Array Value}, h.FunFrames B (X.env :: X.outer) → h.get? a = some o → o.data = .fields vs → a ∉ frs (X.env :: X.outer) := fun {h o vs} ff e dd hm => by
      obtain ⟨_, o', e', hnf⟩ := ff.mem hm
      rw [e] at e'; cases e'
      exact hnf _ dd
    have nfr := notFr fl3.2.2.1 he3 hd3
    have nL : a ≠ X.env.locals := fun z => nfr (List.mem_filterMap.mpr ⟨X.env, List.mem_cons_self, by rw [hf, z]⟩)
    have nF : a ∉ X.fs := fun hm => by
      obtain ⟨e, he, q⟩ := List.mem_filterMap.mp hm
      exact nfr (List.mem_filterMap.mpr ⟨e, List.mem_cons_of_mem _ he, q⟩)
    have S3 := J3.suite he3 hd3 na nL nF
    have LT : PySem.W.Looks (model X.prog X.w) h3 (typeOf (.ref a)) cls := fun A Q E s k q => wpAny_typeOf_ref (k _ _ he3) (by rw [hz3.1]; exact q)
    have test : ∀ {x : Str} {c : Value} {np : Pos} {Q : Value → Shared → Prop} {E : Value → Shared → Prop}, Names X x c → Q c { s' with heap := h3 } → wpAny (model X.prog X.w) (X.A.mark (some (.ref a))) (eval (.Name x np) X.env) Q E { s' with heap := h3 } := fun {x c np Q E} hc q => by
      obtain ⟨hg, hdbg, hm | ⟨hm, hv, hnn⟩⟩ := hc
      · exact ld_glob (X := X.suite a ((a, oe3) :: (X.pn ++ pins))) S3 hg hm q hdbg
      · exact ld_blt (X := X.suite a ((a, oe3) :: (X.pn ++ pins))) S3 hg hm hv q hnn hdbg
    have go : ∀ {hds' : List ExceptHandler} {l' : List Cl}, HdsA X hds' l' → wAll X.K Wout D l' cls d σ' H' →
        wpAny (model X.prog X.w) X.A (handleBy (.ref a) X.env hds') (SP X pins D) X.xe { s' with heap := h3 } := by
      intro hds' l' hk
      induction hk with
      | nil =>
        intro w
        refine wpAny_handleBy_nil ?_
        obtain ⟨k1, k2, k3, oe, vs, T, oT, ts', he, hz, hd, h1, hr⟩ := id fl3
        unfold PySem.passOn
        refine wpAny_bind (wpAny_field he hd h1 ?_)
        rw [if_neg (show ¬ ((Value.ref T == Value.none) = true) from by simp)]
        have fin : wpAny (model X.prog X.w) X.A (setFlight (.ref a) X.env.frame) (fun _ s4 => wpAny (model X.prog X.w) X.A (throw (.ref a) : Sem Flow) (SP X pins D) X.xe s4) X.xe { s' with heap := h3 } := by
          rw [hf]
          refine HandSPX.setFlight_upZ fl3 fun h4 hh4 up4 => wpAny_throw (tk _ _ ?_)
          exact ⟨a, B, sI, pins, σ', H', cls, d, rfl, J, nb, (up.trans up3).trans up4, .inr (.inr (by rw [hs]; exact hh4)), na, os, ag, w⟩
        first
          | exact wpAny_bind (wpAny_pure (wpAny_bind fin))
          | exact wpAny_bind fin
      | @plain x c ts b₀ suite np pos' hds2 l2 hc hsu r ih =>
        intro w
        obtain ⟨b, hb1, hyes, hno⟩ := w
        refine wpAny_handleBy_cons (codeAny_handlers_test ?_) (by intro q; cases q)
        refine test hc ((PySem.W.exm_one (M := model X.prog X.w) (J3.kIn) LT hb1).here ?_)
        cases b with
        | true =>
          refine codeAny_handlers_suite ?_
          refine HandSPX.lands_againZ fl3 fun h4 fl4 up4 => ?_
          have J4 : Inv X pins σ' H' { s' with heap := h4 } := J.landed nb fl4.1 ((up.trans up3).trans up4) os ag
          obtain ⟨oe4, vs4, he4, hz4, hd4⟩ := fl4.there
          have S4 := J4.suite he4 hd4 na nL nF
          refine wpAny_mono ((hsu a oe4 cls d (X.pn ++ pins) hz4 ⟨_, hd4⟩).run [] _ _ H' _ S4 (hyes rfl a na)) (fun f s6 hsp => ?_) (fun _ _ z => False.elim z)
          cases f with
          | next => obtain ⟨σ6, H6, S6, q6⟩ := hsp; exact ⟨_, _, S6.unsuite ok, q6⟩
          | brk => obtain ⟨σ6, H6, S6, q6⟩ := hsp; exact ⟨_, _, S6.unsuite ok, q6⟩
          | cont => obtain ⟨σ6, H6, S6, q6⟩ := hsp; exact ⟨_, _, S6.unsuite ok, q6⟩
          | ret u => obtain ⟨v6, σ6, H6, S6, r6, q6⟩ := hsp; exact ⟨_, _, _, S6.unsuite ok, r6, q6⟩
        | false =>
          show wpAny _ X.A (handleBy (.ref a) X.env hds2) _ _ _
          exact ih (hno rfl)
      | @named x n i c ts b₀ suite np pos' hds2 l2 hc hi hln hsu r ih =>
        intro w
        obtain ⟨b, hb1, hyes, hno⟩ := w
        refine wpAny_handleBy_cons (codeAny_handlers_test ?_) (by intro q; cases q)
        refine test hc ((PySem.W.exm_one (M := model X.prog X.w) (J3.kIn) LT hb1).here ?_)
        cases b with
        | true =>
          refine codeAny_handlers_suite_as ?_
          refine HandSPX.lands_againZ fl3 fun h4 fl4 up4 => ?_
          have J4 : Inv X pins σ' H' { s' with heap := h4 } := J.landed nb fl4.1 ((up.trans up3).trans up4) os ag
          obtain ⟨oe4, vs4, he4, hz4, hd4⟩ := fl4.there
          have S4 := J4.suite he4 hd4 na nL nF
          have hloc : Loc X.env.scope n := .inl hln
          refine store_ok (X := X.suite a ((a, oe4) :: (X.pn ++ pins))) (v := .ref a) S4 hN hi hloc rfl (fun s5 S5 => ?_) (.inr hln)
          refine wpAny_mono ((hsu a oe4 cls d (X.pn ++ pins) hz4 ⟨_, hd4⟩).run [] s5 _ H' _ S5 (hyes rfl a na)) (fun f s6 hsp => ?_) (fun _ _ z => False.elim z)
          have end_ : ∀ {σ6 : L2.St} {H6 : Hp} {Q : Shared → Prop}, Inv (X.suite a ((a, oe4) :: (X.pn ++ pins))) [] σ6 H6 s6 → (∀ s7, Inv X pins (σ6.set i none) H6 s7 → Q s7) →
              wpAny (model X.prog X.w) X.A (do bindName X.env n .none; unbindBehindTheSuite X.env n pos') (fun _ s7 => Q s7) X.xe s6 := fun {σ6 H6 Q} S6 hq => gone_ok (S6.unsuite ok) hN hi hln hq
          cases f with
          | next => obtain ⟨σ6, H6, S6, q6⟩ := hsp; exact end_ S6 fun s7 J7 => ⟨_, _, J7, q6⟩
          | brk => obtain ⟨σ6, H6, S6, q6⟩ := hsp; exact end_ S6 fun s7 J7 => ⟨_, _, J7, q6⟩
          | cont => obtain ⟨σ6, H6, S6, q6⟩ := hsp; exact end_ S6 fun s7 J7 => ⟨_, _, J7, q6⟩
          | ret u => obtain ⟨v6, σ6, H6, S6, r6, q6⟩ := hsp; exact end_ S6 fun s7 J7 => ⟨_, _, _, J7, r6, q6⟩
        | false =>
          show wpAny _ X.A (handleBy (.ref a) X.env hds2) _ _ _
          exact ih (hno rfl)
    exact go hh w
  · cases f with
    | next => obtain ⟨σ', H', J', q⟩ := hsp; exact wpAny_execs_nil ⟨σ', H', J'.ofTry ok, q⟩
    | brk => obtain ⟨σ', H', J', q⟩ := hsp; exact ⟨σ', H', J'.ofTry ok, q⟩
    | cont => obtain ⟨σ', H', J', q⟩ := hsp; exact ⟨σ', H', J'.ofTry ok, q⟩
    | ret u => obtain ⟨v, σ', H', J', r, q⟩ := hsp; exact ⟨v, σ', H', J'.ofTry ok, r, q⟩
end
end DL
set_option Elab.async false
set_option linter.all false
set_option maxRecDepth 100000
set_option maxHeartbeats 4000000
namespace DL
open PySem PySem.Spec PySem.Calls PyProof.Rows PySem.W

/-! ## isinstance of a handled error, with a dict or none -/
section
variable {prog : Program} {w : World} {A : Around} {E : Value → Shared → Prop} {s : Shared} {K : Frag} {x D : Addr} {ox : Obj} {od : Option Obj}
theorem findObj_data {C : Addr} {name : Str} {a g : Value} (hc : (clsIn K C).isSome = true) (ha : findIn K (.ref C) name = some (some a)) (hg : specialIn K a "__get__" = some (some g)) (ht : takesIn K a = some true) : findObj K C od name = some (.bind g a) := by
  obtain ⟨cd, hc⟩ := Option.isSome_iff_exists.mp hc
  unfold findObj
  rw [hc, Option.bind_some, ha, Option.bind_some]
  simp [hg, ht]
theorem err_class {Q : Option Value → Shared → Prop} (T : L2.ExcC K D) (X : K.In s.heap) (I : InstAt s.heap x ox D od) (h : Q (some (.ref D)) { s with toks := s.toks + 1 }) : wpAny (model prog w) A (getAttr? (.ref x) "__class__") Q E s := by
  have hf : findObj K D od "__class__" = some (.bind (.builtin "getset_descriptor.__get__") (.builtin "object.__class__")) := findObj_data (by obtain ⟨cd, hc, _⟩ := any_some T.hd; rw [hc]; rfl) T.ha T.hn T.ht
  obtain ⟨hp, g, d, t, os⟩ := s
  have L0 := I.type (M := model prog w)
  have L1 := looks_findIn (M := model prog w) X T.hg
  have L2' := looks_findIn (M := model prog w) X T.hk
  have L3 := looks_find (M := model prog w) X I hf
  have sub : Looks (model prog w) hp (isInstance (.ref x) (.type "BaseException")) true := L0.andThen (looks_subIn X T.hs)
  have hx2 : (Value.builtin "BaseException.__getattribute__" == Value.builtin "object.__getattribute__") = false := by decide +kernel
  have hx1 : (onTheHeap (Value.ref D) && Value.builtin "BaseException.__getattribute__" == Value.builtin "object.__getattribute__") = false := by rw [hx2]; rfl
  unfold getAttr? getAttrBy? getAttrBy
  refine wpAny_bind (wpAny_mkText (wpAny_bind (wpAny_attempt (wpAny_holding (wpAny_bind (L0.at (wpAny_bind (L1.at ?_))))))))
  show wpAny _ _ (if (onTheHeap (Value.ref D) && Value.builtin "BaseException.__getattribute__" == Value.builtin "object.__getattribute__") = true then _ else _) _ _ _
  rw [hx1, if_neg Bool.false_ne_true]
  unfold getAttrByItsOwn hookBefore
  refine wpAny_bind ?_
  rw [if_pos (show onTheHeap (Value.ref D) = true from rfl)]
  refine L2'.at ?_
  refine wpAny_bind (wpAny_attempt (wpAny_holding ?_))
  unfold callGetattribute
  rw [show (false && onTheHeap (Value.builtin "BaseException.__getattribute__")) = false from rfl, if_neg Bool.false_ne_true]
  unfold boundAndCalled
  rw [PySem.F.excAttr_ValueError.ga.bind (.ref x)]
  refine wpAny_bind (wpAny_pure ?_)
  show wpAny _ _ (call (.builtin "BaseException.__getattribute__") [.ref x, .str "__class__" t]) _ _ _
  refine wpAny_call (codeAny_call_builtin PySem.F.excAttr_ValueError.ga.plain PySem.F.entry_bexc_ga ?_)
  refine @check_slot (model prog w) _ _ ⟨hp, g, d, t + 1, os⟩ "BaseException.__getattribute__" "BaseException" "__getattribute__" (.ref x) [.str "__class__" t] [] _ (by decide +kernel) (by decide +kernel) sub (PySem.F.args_bexc_ga (.ref x) (.str "__class__" t)) ?_
  unfold Builtin.«object.__getattribute__»
  refine wpAny_bind (wpAny_of_eq (a := ((Value.ref x : Value), [Value.str "__class__" t])) (by first | rfl | (simp only [slotArgs]; rfl)) ?_)
  refine wpAny_bind (wpAny_pure (wpAny_bind (L0.at (wpAny_bind (L3.at ?_)))))
  show wpAny _ _ (holding [Value.builtin "object.__class__"] (call (.builtin "getset_descriptor.__get__") [.builtin "object.__class__", .ref x, .ref D]) >>= ret) _ _ _
  refine wpAny_bind (wpAny_holding (wpAny_call (class_get (s := ⟨hp, g, d, t + 1, os⟩) (ox := ox) (od := od) X I T.hm ?_)))
  refine wpAny_pure ?_
  show wpAny _ _ (handedOut (.ref D)) _ _ _
  rw [handedOut_of (v := .ref D) rfl]
  first
    | exact wpAny_pure (wpAny_pure h)
    | exact wpAny_pure h
    | exact wpAny_pure (wpAny_bind (wpAny_pure (wpAny_pure h)))
theorem kitx_err (T : L2.ExcC K D) : KitX K (.ref x) (.ref D) (fun h => ∃ ox od, InstAt h x ox D od) where
  ty := fun _ _ _ ⟨_, _, I⟩ => I.type
  it := fun _ _ X _ => by
    obtain ⟨cdD, hcD, _⟩ := any_some T.hd
    unfold clsIn at hcD
    split at hcD
    · rename_i c' d' cd' sl' ho
      intro A' Q' E' s' k q
      unfold isType loadHead
      exact wpAny_bind (wpAny_loadPart (k _ _ (X _ _ ho)) (wpAny_pure q))
    · cases hcD
  ne := fun h tp dd its n sl X htp => by
    obtain ⟨cdD, hcD, _⟩ := any_some T.hd
    refine Bool.eq_false_iff.mpr fun q => ?_
    have e : D = tp := Value.ref.inj (beq_iff_eq.mp q)
    subst e
    unfold clsIn at hcD
    split at hcD
    · rename_i c' d' cd' sl' ho
      have z := (X _ _ ho).symm.trans htp
      cases z
    · cases hcD
  ca := fun X ⟨_, _, I⟩ k => err_class T X I k
end
end DL
set_option Elab.async false
set_option linter.all false
set_option maxRecDepth 100000
set_option maxHeartbeats 4000000
namespace DL
open PySem PySem.Spec PyProof.Rows L2

/-! ## dicts that are written: {k: v, ..}, the keys ints and texts that are written, no two alike -/
def keyE : Expr → Option Key
  | .Constant (.int i) _ _ => some (.inl i)
  | .Constant (.str x) _ _ => some (.inr x)
  | _ => none
def keysE : List (Option Expr) → Option (List Key)
  | [] => some []
  | some e :: r => match keyE e, keysE r with
    | some k, some ks => some (k :: ks)
    | _, _ => none
  | none :: _ => none
def dispK (κs : List Key) (n : Nat) (xs : List D) : M D := fun h => if xs.length = κs.length then (match h[n]? with
  | some (.dct []) => some (.ok (.loc n), h.set n (.dct ((κs.map kD).zip xs)))
  | _ => none) else none
def dispM (κs : List Key) (fs : Ev → M (List D)) : Ev → M D := fun e hs => M.bind (fs e) (dispK κs hs.length) (hs ++ [.dct []])
def dispAny (ks : List (Option Expr)) (n : Nat) (fs : Ev → M (List D)) : Ev → M D := match keysE ks with
  | some κs => if ks.length = n ∧ κs.Nodup ∧ ks.length ≤ 15 ∧ ks.length ≠ 0 then dispM κs fs else fun _ => M.stuck
  | none => fun _ => M.stuck
def consAll (fs : List (Ev → M D)) : Ev → M (List D) := fs.foldr consM (fun _ => M.pure [])
def pairV (κs : List Key) (us : List V) : List (V × V) := (κs.zip us).map fun p => (kV p.1, p.2)
section
variable {X : Cx} {W : WX} {pos : Pos}
theorem keyE_ok {e : Expr} {k : Key} (h : keyE e = some k) : ∃ tk : TE, PE X e tk ∧ ∀ σ H Q, Q (kV k) H → tk σ H Q := by
  unfold keyE at h
  split at h
  · cases h; exact ⟨_, pe_int, fun _ _ _ q => q⟩
  · cases h; exact ⟨_, pe_str, fun _ _ _ q => q⟩
  · cases h
theorem pairs_ok {g : Expr → Ev → M D} : ∀ {ks : List (Option Expr)} {es : List Expr} {κs : List Key}, keysE ks = some κs → ks.length = es.length → (∀ e ∈ es, DE X W e (g e)) →
    ∃ trs, PPs X pos ks es trs ∧ ∀ σ H Q, tA X.K X.mg W (consAll (es.map g)) σ H (fun us H' => Q (pairV κs us) H') → tPairs trs σ H Q
  | [], [], κs, h, _, _ => by
    cases h
    exact ⟨[], pps_nil, fun σ H Q ⟨m, ev, hs, rs, hr, q⟩ => q.pure hr _ (RVs.nil_iff.mpr rfl)⟩
  | none :: _, _ :: _, _, h, _, _ => by cases h
  | some k :: ks, e :: es, κs, h, hl, each => by
    simp only [keysE] at h
    cases e1 : keyE k with
    | none => rw [e1] at h; cases h
    | some κ =>
      cases e2 : keysE ks with
      | none => rw [e1, e2] at h; cases h
      | some κs' =>
        rw [e1, e2] at h
        cases h
        obtain ⟨tk, hk, qk⟩ := keyE_ok (X := X) e1
        obtain ⟨trs, hp, ih⟩ := pairs_ok (ks := ks) (es := es) e2 (by simpa using hl) fun e he => each e (List.mem_cons_of_mem _ he)
        refine ⟨_, pps_cons hk (each e List.mem_cons_self) hp, fun σ H Q ⟨m, ev, hs, rs, hr, q⟩ => qk _ _ _ ?_⟩
        exact ⟨m, ev, hs, rs, hr, q.bind.mono fun d m1 hs1 H1 e1 hr1 q1 v rv => ih σ H1 _ ⟨m1, ev, hs1, rs.mono e1, hr1, q1.bind.mono fun ds m2 hs2 H2 e2 hr2 q2 vs rvs => q2.pure hr2 _ (RVs.cons (rv.mono e2) rvs)⟩⟩
theorem rks_zip {K : PySem.W.Frag} {mg : Str → Option Value} {m : List Addr} {H : Hp} : ∀ {κs : List Key} {xs : List D} {vs : List V}, xs.length = κs.length → RVs K mg m H xs vs → RKs K mg m H ((κs.map kD).zip xs) (κs.zip vs)
  | [], [], vs, _, h => by rw [RVs.nil_iff] at h; subst h; rfl
  | κ :: κs, x :: xs, vs, hl, h => by
    obtain ⟨v, r, rfl, h1, h2⟩ := RVs.cons_iff.mp h
    exact ⟨κ, v, _, rfl, rfl, h1, rks_zip (by simpa using hl) h2⟩
theorem merge_self : ∀ {more kvs : List (Key × V)}, (kvs.map (·.1) ++ more.map (·.1)).Nodup → mergeK kvs more = kvs ++ more
  | [], kvs, _ => by simp [mergeK]
  | p :: more, kvs, h => by
    have e : valV kvs p.1 = none := by
      cases q : valV kvs p.1 with
      | none => rfl
      | some v =>
        exfalso
        have : (kvs.any fun kv => decide (kv.1 = p.1)) = true := by rw [valV_any, q]; rfl
        obtain ⟨z, hz, hd⟩ := List.any_eq_true.mp this
        have hd := of_decide_eq_true hd
        rw [List.nodup_append] at h
        exact h.2.2 z.1 (List.mem_map.mpr ⟨z, hz, rfl⟩) p.1 (by simp) hd
    show mergeK (putK kvs p.1 p.2) more = _
    rw [putK_new _ e, merge_self (by simpa using h)]
    simp
theorem dispAny_ok {ks : List (Option Expr)} {es : List Expr} {g : Expr → Ev → M D} (each : ∀ e ∈ es, DE X W e (g e)) : DE X W (.Dict ks es pos) (dispAny ks es.length (consAll (es.map g))) := by
  unfold dispAny
  split
  · rename_i κs hk
    split
    · rename_i hc
      obtain ⟨hl, hnd, h15, h0⟩ := hc
      obtain ⟨trs, hp, ih⟩ := pairs_ok (X := X) (W := W) (pos := pos) hk hl each
      have hall : ∀ {ks : List (Option Expr)} {κs : List Key}, keysE ks = some κs → ks.all (·.isSome) = true ∧ κs.length = ks.length := by
        intro ks
        induction ks with
        | nil => intro κs h; cases h; exact ⟨rfl, rfl⟩
        | cons k ks ih =>
          intro κs h
          cases k with
          | none => cases h
          | some k =>
            simp only [keysE] at h
            cases e1 : keyE k with
            | none => rw [e1] at h; cases h
            | some κ =>
              cases e2 : keysE ks with
              | none => rw [e1, e2] at h; cases h
              | some κs' =>
                rw [e1, e2] at h
                cases h
                obtain ⟨q1, q2⟩ := ih e2
                exact ⟨by simp [q1], by simp [q2]⟩
      obtain ⟨ha, hkl⟩ := hall hk
      refine (pe_disp hp ha hl (fun e => h0 (by rw [e]; rfl)) h15).imp fun σ H Q ⟨m, ev, hs, rs, hr, q⟩ p hn => ?_
      have x := Ext.push (K := X.K) (o := .dK []) hn (m := m)
      have hr2 := hr.push (o := .dct []) hn ⟨[], upd_same, rfl⟩
      have hmp : (m ++ [p])[hs.length]? = some p := by rw [← hr.len]; simp
      refine ih _ _ _ ⟨m ++ [p], ev, hs ++ [.dct []], rs.mono x, hr2, (AfterM.from x q).bind.mono fun ds m2 hs2 H2 e2 hr2 q2 vs rvs => ?_⟩
      unfold dispK at q2
      split at q2
      · rename_i hdl
        have hm2 := e2.wk.loc hmp
        cases ec : hs2[hs.length]? with
        | none => rw [ec] at q2; exact q2.elim
        | some o =>
          rw [ec] at q2
          cases o with
          | dct kvs =>
            cases kvs with
            | nil =>
              obtain ⟨ks0, h1, h2⟩ := hr2.ob _ _ _ ec hm2
              simp only [RKs] at h2
              subst h2
              have pl : (∀ xs, HO.dK [] ≠ .tup xs) ∧ (∀ v w, HO.dK [] ≠ .frz v w) ∧ ∀ fs, HO.dK [] ≠ .xd fs := ⟨(fun _ h => nomatch h), (fun _ _ h => nomatch h), (fun _ h => nomatch h)⟩
              have x2 := Ext.write (K := X.K) (u := .dK (mergeK [] (κs.zip vs))) hm2 h1 pl
              have hvl : vs.length = κs.length := by rw [← rvs.length]; exact hdl
              have em : mergeK [] (κs.zip vs) = κs.zip vs := by
                have : (κs.zip vs).map (·.1) = κs := by rw [List.map_fst_zip]; omega
                have := merge_self (kvs := []) (more := κs.zip vs) (by rw [this]; simpa using hnd)
                simpa using this
              refine ⟨h1, κs.zip vs, rfl, by simp [hvl, hkl]; exact h15, ?_⟩
              refine q2 m2 _ x2 (hr2.write hm2 h1 pl ⟨_, upd_same, ?_⟩) _ (by simp only [RV]; exact ⟨p, rfl, hm2⟩)
              rw [em]
              exact (rks_zip hdl rvs).monoW (by rw [← em]; exact x2.wk)
            | cons _ _ => exact q2.elim
          | _ => exact q2.elim
      · exact q2.elim
    · exact de_no
  · exact de_no
end
end DL
set_option Elab.async false
set_option linter.all false
set_option maxRecDepth 100000
set_option maxHeartbeats 400000
namespace DL
open PySem PySem.Spec PyProof.Rows L2

/-! ## {k: v}, k a tuple that is computed -/
def tDispN (K : PySem.W.Frag) (tk tv : TE) : TE := fun σ H Q => ∀ p, H p = none → (p == sysModules) = false → tPairs [(tk, tv)] σ (upd H p (dnO p [])) fun ps H2 => ∃ x y, ps = [(x, y)] ∧ H2 p = some (dnO p []) ∧ ∃ κ b, x = .ref b ∧ GoodK K H2 κ b ∧ (∀ u, RelV y u → Q (.ref p) (upd H2 p (dnO p [(κ, b, u)])))
theorem vv1 {x y : V} {ws : List (Value × Value)} (r : VV [(x, y)] ws) : ∃ w1 w2, ws = [(w1, w2)] ∧ RelV x w1 ∧ RelV y w2 := by
  cases r with
  | cons a t =>
    cases t
    exact ⟨_, _, rfl, a.1, a.2⟩
section
variable {X : Cx} {pos : Pos} {k v : Expr} {tk tv : TE}
theorem pe_dispN (hu : X.A.units + 65 < cLine) (hk : PE X k tk) (hv : PE X v tv) : PE X (.Dict [some k] [v] pos) (tDispN X.K tk tv) := by
  refine ⟨fun pins s σ H Q I q => ?_⟩
  have hn := I.hok.fresh (Nat.le_refl s.heap.objs.size)
  have hsm : (s.heap.objs.size == sysModules) = false := beq_eq_false_iff_ne.mpr (Ne.symm (Nat.ne_of_lt I.big))
  have I1 := I.laid (a := s.heap.objs.size) (o := dnO s.heap.objs.size []) (h' := s.heap.push { cls := .type "dict", data := .dict #[] }) (t' := s.toks) (fun _ _ q => Heap.get?_push_of_some _ q) (Nat.le_refl _)
    ⟨⟨_, #[], 0, Heap.get?_push_size _ rfl, ⟨rfl, rfl, rfl⟩, rfl, rfl, List.nodup_nil⟩, ⟨_, Heap.get?_push_size _ rfl⟩, fun h1 h2 x k => let ⟨o, es, ep, e, r⟩ := x; ⟨o, es, ep, k o e, r⟩⟩
  rw [arm_eval_Dict, zip_pairTrees [some k] [v] X.env pos rfl rfl, dictDisplay_pairs (pairTrees [some k] [v] X.env pos) (fun e => nomatch e) (by rw [pairTrees_length [some k] [v] X.env pos rfl rfl]; exact (by decide : 1 < 17))]
  have pp := pps_cons (pos := pos) hk hv pps_nil
  refine wpAny_bind (wpAny_standAt (wpAny_bind (wpAny_subDictH (knd := nestedKind X.prog X.w) (Q := fun d s' => wpAny _ _ (pure (Value.ref d)) (EP X pins σ Q) X.xe s') (show X.A.units + 8 < cLine by omega) (by rw [pairTrees_length [some k] [v] X.env pos rfl rfl]; exact (by decide : 1 ≤ 15)) ?_)))
  refine thn (pp.run pins _ σ _ _ I1 (q _ hn hsm)) fun ws s2 ⟨ps, H2, I2, rel, x, y, e, h1, κ, b, ex, g, q2⟩ => ?_
  subst e
  subst ex
  obtain ⟨w1, w2, rfl, r1, r2⟩ := vv1 rel
  obtain rfl : w1 = Value.ref b := r1
  have dn : DN X.K H2 s.heap.objs.size [] := ⟨h1, hsm, Nat.zero_le _, fun x hx => nomatch hx⟩
  refine ⟨[(κ, b, w2)], ⟨rfl, rfl, good_is I2 g, trivial⟩, dn_of I2 dn, fun h' tk dd hs => wpAny_pure ?_⟩
  have I3 := dn_write (t' := tk) I2 (by rw [h1]; exact True.intro) hs dd (fun x hx => by rw [List.mem_singleton.mp hx]; exact g.2.2)
  exact ⟨.ref s.heap.objs.size, _, I3, rfl, q2 w2 r2⟩
variable {W : WX} {fk fv : Ev → M D}
def dispNK (n : Nat) (k v : D) : M D := fun h => match keyN k with
  | some _ => (match h[n]? with
    | some (.dcn []) => some (.ok (.loc n), h.set n (.dcn [(k, v)]))
    | _ => none)
  | none => none
def dispN (fk fv : Ev → M D) : Ev → M D := fun e hs => M.bind (fk e) (fun k => M.bind (fv e) (dispNK hs.length k)) (hs ++ [.dcn []])
theorem de_dispN (hu : X.A.units + 65 < cLine) (hk : DE X W k fk) (hv : DE X W v fv) : DE X W (.Dict [some k] [v] pos) (dispN fk fv) := by
  refine (pe_dispN hu hk hv).imp fun σ H Q ⟨m, ev, hs, rs, hr, q⟩ p hn hsm => ?_
  have x := Ext.push (K := X.K) (o := dnO p []) hn (m := m)
  have hr2 := hr.push (o := .dcn []) hn ⟨[], upd_same, hsm, Nat.zero_le _, RNs.nil_iff.mpr rfl⟩
  have hmp : (m ++ [p])[hs.length]? = some p := by rw [← hr.len]; simp
  refine ⟨m ++ [p], ev, hs ++ [.dcn []], rs.mono x, hr2, (AfterM.from x q).bind.mono fun kd m2 hs2 H2 e2 hr3 q2 xv rxv => ⟨m2, ev, hs2, (rs.mono x).mono e2, hr3, q2.bind.mono fun vd m3 hs3 H3 e3 hr4 q3 yv ryv => ?_⟩⟩
  have rk := rxv.mono e3
  have hm3 := e3.wk.loc (e2.wk.loc hmp)
  unfold dispNK at q3
  split at q3
  · rename_i κ hκ
    split at q3
    · rename_i ec
      obtain ⟨b, rfl, g⟩ := keyN_good hκ rk
      obtain ⟨_, k1, k8⟩ := keyN_some hκ
      obtain ⟨xs, dn, rn⟩ := hr4.dcn_at hm3 ec
      rw [RNs.nil_iff] at rn
      subst rn
      refine ⟨_, _, rfl, dn.1, κ, b, rfl, g, fun u ru => ?_⟩
      have x2 := Ext.write (K := X.K) (u := dnO p [(κ, b, u)]) hm3 dn.1 dnO_plain
      have rn2 : RNs X.K X.mg m3 H3 [(kd, vd)] [(κ, b, u)] := RNs.cons_iff.mpr ⟨κ, b, u, yv, [], rfl, k1, k8, rk, ryv, ru, RNs.nil_iff.mpr rfl⟩
      refine q3 m3 _ x2 (hr4.write hm3 dn.1 dnO_plain ⟨_, upd_same, hsm, ?_, rn2.monoW x2.wk⟩) _ (by simp only [RV]; exact ⟨p, rfl, hm3⟩)
      rw [sizeLine_eq]
      simp
    · exact q3.elim
  · exact q3.elim
end
end DL
set_option Elab.async false
set_option linter.all false
set_option maxRecDepth 100000
set_option maxHeartbeats 4000000
namespace DL
open PySem PySem.Spec PyProof.Rows L2

/-! ## methods of a dict whose keys are tuples -/
def setdefD (x : D) (ds : List D) : P D := fun hs => match x, ds with
  | .loc n, [k, d] => (match keyN k, hs[n]? with
    | some κ, some (.dcn kvs) => (match findN kvs κ with
      | some v => some (v, hs)
      | none => if kvs.length < sizeLine then some (d, hs.set n (.dcn (putN kvs κ k d))) else none)
    | some _, some (.dct []) => some (d, hs.set n (.dcn [(k, d)]))
    | _, _ => none)
  | _, _ => none
def popKD (x : D) (ds : List D) : P D := fun hs => match x, ds with
  | .loc n, [k, d] => (match keyN k, hs[n]? with
    | some κ, some (.dcn kvs) => (match findN kvs κ with
      | some v => some (v, hs.set n (.dcn (dropN kvs κ)))
      | none => some (d, hs))
    | some _, some (.dct []) => some (d, hs)
    | _, _ => none)
  | _, _ => none
section
variable {X : Cx}
theorem setdefD_ok (hu : X.A.units + 65 < cLine) : MtR X "dict.setdefault" (rMt X.K X.mg setdefD) := by
  intro pins s σ H x vs v us Q I rx rvs h
  obtain ⟨m, hs, a, ds, d, hs', hr, ra, rds, hf, k⟩ := h
  unfold setdefD at hf
  split at hf
  · rename_i n kd dd
    obtain ⟨p, rfl, hm⟩ := rv_loc ra
    cases rx
    obtain ⟨y, w, rfl, ry, rw_⟩ := rvs2 rds
    obtain ⟨u1, u2, rfl, r1, r2⟩ := vals2 rvs
    split at hf
    · rename_i κ kvs hk e
      obtain ⟨b, rfl, g⟩ := keyN_good hk ry
      obtain ⟨_, k1, k8⟩ := keyN_some hk
      cases r1
      obtain ⟨xs, dn, rn⟩ := hr.dcn_at hm e
      refine dn_setdefault (u := u2) (by omega) I dn g (fun q s' hq I' => ?_) fun s' hn I' => ?_
      · rcases rn.find (κ := κ) with ⟨e1, e2⟩ | ⟨d0, q0, z, e1, e2, rd, ru⟩
        · rw [e2] at hq; cases hq
        · rw [e2] at hq
          cases hq
          rw [e1] at hf
          cases hf
          exact ⟨z, H, I', ru, k.here hr rd⟩
      · rcases rn.find (κ := κ) with ⟨e1, e2⟩ | ⟨d0, q0, z, e1, e2, rd, ru⟩
        · rw [e1] at hf
          simp only at hf
          split at hf
          · rename_i hz
            cases hf
            have x := Ext.write (K := X.K) (u := dnO p (storedH xs κ b u2)) hm dn.1 dnO_plain
            refine ⟨w, _, I', r2, k m _ _ x (hr.write hm dn.1 dnO_plain ⟨_, upd_same, dn.2.1, ?_, (rn.put k1 k8 ry rw_ r2).monoW x.wk⟩) (rw_.mono x)⟩
            have l := rn.len
            have : (storedH xs κ b u2).length ≤ xs.length + 1 := by
              unfold storedH
              split <;> simp
            omega
          · cases hf
        · rw [e2] at hn; cases hn
    · rename_i κ hk e
      cases hf
      obtain ⟨b, rfl, g⟩ := keyN_good hk ry
      obtain ⟨_, k1, k8⟩ := keyN_some hk
      cases r1
      have h1 := hr.dct0 hm e
      obtain ⟨I1, hd⟩ := dn_turn I h1
      have mo := (Ext.write (K := X.K) (u := dnO p []) hm h1 dk_plain).tup
      have dn : DN X.K (upd H p (dnO p [])) p [] := ⟨upd_same, hd, Nat.zero_le _, fun x hx => nomatch hx⟩
      refine dn_setdefault (u := u2) (by omega) I1 dn (good_mono mo g) (fun q s' hq I' => by cases hq) fun s' hn I' => ?_
      rw [upd_upd] at I'
      have x := Ext.write (K := X.K) (u := dnO p (storedH [] κ b u2)) hm h1 dk_plain
      refine ⟨w, _, I', r2, k m _ _ x (hr.write hm h1 dk_plain ⟨_, upd_same, hd, ?_, ((RNs.nil_iff (xs := [])).mpr rfl |>.put (kvs := []) k1 k8 ry rw_ r2).monoW x.wk⟩) (rw_.mono x)⟩
      unfold storedH
      rw [sizeLine_eq]
      simp [atKey]
    · cases hf
  · cases hf
theorem popKD_ok (hu : X.A.units + 65 < cLine) : MtR X "dict.pop" (rMt X.K X.mg popKD) := by
  intro pins s σ H x vs v us Q I rx rvs h
  obtain ⟨m, hs, a, ds, d, hs', hr, ra, rds, hf, k⟩ := h
  unfold popKD at hf
  split at hf
  · rename_i n kd dd
    obtain ⟨p, rfl, hm⟩ := rv_loc ra
    cases rx
    obtain ⟨y, w, rfl, ry, rw_⟩ := rvs2 rds
    obtain ⟨u1, u2, rfl, r1, r2⟩ := vals2 rvs
    split at hf
    · rename_i κ kvs hk e
      obtain ⟨b, rfl, g⟩ := keyN_good hk ry
      cases r1
      obtain ⟨xs, dn, rn⟩ := hr.dcn_at hm e
      refine dn_pop (u := u2) (by omega) I dn g (fun q s' hq I' => ?_) fun s' hn I' => ?_
      · rcases rn.find (κ := κ) with ⟨e1, e2⟩ | ⟨d0, q0, z, e1, e2, rd, ru⟩
        · rw [e2] at hq; cases hq
        · rw [e2] at hq
          cases hq
          rw [e1] at hf
          cases hf
          have x := Ext.write (K := X.K) (u := dnO p (withoutH xs κ)) hm dn.1 dnO_plain
          exact ⟨z, _, I', ru, k m _ _ x (hr.write hm dn.1 dnO_plain ⟨_, upd_same, dn.2.1, Nat.le_trans (withoutH_length _ _) dn.2.2.1, rn.drop.monoW x.wk⟩) (rd.mono x)⟩
      · rcases rn.find (κ := κ) with ⟨e1, e2⟩ | ⟨d0, q0, z, e1, e2, rd, ru⟩
        · rw [e1] at hf
          cases hf
          exact ⟨w, H, I', r2, k.here hr rw_⟩
        · rw [e2] at hn; cases hn
    · rename_i κ hk e
      cases hf
      obtain ⟨b, rfl, g⟩ := keyN_good hk ry
      cases r1
      have h1 := hr.dct0 hm e
      obtain ⟨I1, hd⟩ := dn_turn I h1
      have mo := (Ext.write (K := X.K) (u := dnO p []) hm h1 dk_plain).tup
      have dn : DN X.K (upd H p (dnO p [])) p [] := ⟨upd_same, hd, Nat.zero_le _, fun x hx => nomatch hx⟩
      refine dn_pop (u := u2) (by omega) I1 dn (good_mono mo g) (fun q s' hq I' => by cases hq) fun s' hn I' => ?_
      have := dk_turn I' dn
      rw [back h1] at this
      exact ⟨w, H, this, r2, k.here hr rw_⟩
    · cases hf
  · cases hf
end
end DL
set_option Elab.async false
set_option linter.all false
set_option maxRecDepth 100000
set_option maxHeartbeats 4000000
namespace DL
open PySem PySem.Spec PyProof.Rows L2

/-! ## d.update(d2): keys that are tuples -/
def putAllN (kvs more : List (D × D)) : List (D × D) := more.foldl (fun acc p => match nkD p.1 with
  | some κ => putN acc κ p.1 p.2
  | none => acc) kvs
def hashesN (more : List (D × D)) : List (Option Int) := more.map fun p => (nkD p.1).map hash0
noncomputable def updD (x : D) (ds : List D) : P D := fun hs => match x, ds with
  | .loc n, [.loc k] => (match hs[n]?, hs[k]? with
    | some (.dcn kvs), some (.dcn more) => @ite _ (n ≠ k ∧ kvs.length + more.length ≤ sizeLine ∧ (kvs ≠ [] ∨ (hashesN more).Nodup)) (Classical.propDecidable _) (some (.non, hs.set n (.dcn (putAllN kvs more)))) none
    | some (.dct []), some (.dcn more) => @ite _ (n ≠ k ∧ more.length ≤ sizeLine ∧ (hashesN more).Nodup) (Classical.propDecidable _) (some (.non, hs.set n (.dcn (putAllN [] more)))) none
    | _, _ => none)
  | _, _ => none
section
variable {X : Cx} {pins : List (Addr × Obj)} {σ : L2.St} {H : Hp} {s : Shared} {K : PySem.W.Frag} {mg : Str → Option Value} {m : List Addr}
theorem RNs.putAll : ∀ {more : List (D × D)} {ys : List NE} {kvs : List (D × D)} {xs : List NE}, RNs K mg m H kvs xs → RNs K mg m H more ys → RNs K mg m H (putAllN kvs more) (storedAllH xs ys)
  | [], ys, kvs, xs, h, r => by
    rw [RNs.nil_iff] at r
    subst r
    exact h
  | (k, d) :: more, ys, kvs, xs, h, r => by
    obtain ⟨κ, b, u, v, r', rfl, h1, h2, h3, h4, h5, h6⟩ := RNs.cons_iff.mp r
    have q := RNs.putAll (h.put h1 h2 h3 h4 h5) h6
    unfold putAllN storedAllH at q ⊢
    rw [List.foldl_cons, List.foldl_cons]
    simp only [h1]
    exact q
theorem RNs.hashes : ∀ {more : List (D × D)} {ys : List NE}, RNs K mg m H more ys → hashesN more = ys.map fun x => some (hash0 x.1)
  | [], ys, r => by
    rw [RNs.nil_iff] at r
    subst r
    rfl
  | (k, d) :: more, ys, r => by
    obtain ⟨κ, b, u, v, r', rfl, h1, _, _, _, _, h6⟩ := RNs.cons_iff.mp r
    have q := RNs.hashes h6
    unfold hashesN at q ⊢
    rw [List.map_cons, List.map_cons, q, h1]
    rfl
theorem nodup_some {α β : Type} {f : α → β} {l : List α} (h : (l.map fun x => some (f x)).Nodup) : (l.map f).Nodup := by
  have e : (l.map fun x => some (f x)) = (l.map f).map some := by rw [List.map_map]; rfl
  rw [e] at h
  exact List.Pairwise.of_map some (fun a b h q => h (by rw [q])) h
theorem stored_all_bare : ∀ {ys xs : List NE}, (∀ x ∈ xs, bareN x.1 = true) → (∀ x ∈ ys, bareN x.1 = true) → ∀ x ∈ storedAllH xs ys, bareN x.1 = true
  | [], xs, h, _, x, hx => h x hx
  | y :: ys, xs, h, g, x, hx => by
    unfold storedAllH at hx
    rw [List.foldl_cons] at hx
    exact stored_all_bare (stored_bare h (g y (by simp))) (fun x hx => g x (by simp [hx])) x hx
theorem good_tuple {κ : NestedKey} {b : Addr} (I : Inv X pins σ H s) (g : GoodK X.K H κ b) : s.TypeIs (.ref b) "tuple" := by
  have h := g.1
  cases h with
  | tup hs hk =>
    obtain ⟨its, rv, ⟨o, ho, hc, n, hd⟩, _⟩ := I.tuple hs
    exact ⟨o, ho, hc⟩
/-- d.update(d2) of the layer -/
theorem dn_update {a b : Addr} {xs ys : List NE} {A : Around} {E : Value → Shared → Prop} {Q : Value → Shared → Prop} (hu : A.units + 64 < cLine) (I : Inv X pins σ H s) (d : DN X.K H a xs) (e : DN X.K H b ys) (ne : a ≠ b) (hap : xs ≠ [] ∨ (ys.map fun x => hash0 x.1).Nodup) (hz : xs.length + ys.length ≤ sizeLine)
    (h : ∀ s', Inv X pins σ (upd H a (dnO a (storedAllH xs ys))) s' → Q .none s') : wpAny (model X.prog X.w) A (call (.builtin "dict.update") [.ref a, .ref b]) Q E s := by
  refine call_update_dictH (knd := nestedKind X.prog X.w) (show A.units + 1 + 8 < cLine by omega) ne e.2.1 (dn_of I d) (dn_of I e) ?_ hz fun h' dd _ hs => h _ (dn_write I (by rw [d.1]; exact True.intro) hs dd (stored_all_bare (fun x hx => (d.2.2.2 x hx).2.2) fun x hx => (e.2.2.2 x hx).2.2))
  rcases hap with h | h
  · exact .inl h
  · refine .inr ⟨fun x hx => good_tuple I (e.2.2.2 x hx), ?_⟩
    have q : (ys.map fun x => (nestedKind X.prog X.w).hash x.1) = ys.map fun x => hash0 x.1 := List.map_congr_left fun x hx => hash_bare X.w _ (e.2.2.2 x hx).2.2
    rw [q]
    exact h
theorem stored_all_len {xs ys : List NE} : (storedAllH xs ys).length ≤ xs.length + ys.length := by
  induction ys generalizing xs with
  | nil => exact Nat.le_refl _
  | cons y ys ih =>
    have q := ih (xs := storedH xs y.1 y.2.1 y.2.2)
    have l : (storedH xs y.1 y.2.1 y.2.2).length ≤ xs.length + 1 := by
      unfold storedH
      split <;> simp
    unfold storedAllH at q ⊢
    rw [List.foldl_cons, List.length_cons]
    omega
theorem updD_ok (hu : X.A.units + 65 < cLine) : MtR X "dict.update" (rMt X.K X.mg updD) := by
  intro pins s σ H x vs v us Q I rx rvs h
  obtain ⟨m, hs, a, ds, d, hs', hr, ra, rds, hf, k⟩ := h
  unfold updD at hf
  split at hf
  · rename_i n kd
    obtain ⟨p, rfl, hm⟩ := rv_loc ra
    cases rx
    obtain ⟨y, rfl, ry⟩ := rvs1 rds
    obtain ⟨p2, rfl, hm2⟩ := rv_loc ry
    cases rvs with
    | cons r0 r1 =>
    cases r1
    cases r0
    have ne : n ≠ kd → p ≠ p2 := fun z q => by
      subst q
      exact z ((List.getElem?_inj (List.getElem?_eq_some_iff.mp hm).1 hr.nd).mp (by rw [hm, hm2]))
    split at hf
    · rename_i kvs more e1 e2
      split at hf
      · rename_i hc
        cases hf
        obtain ⟨xs, dn, rn⟩ := hr.dcn_at hm e1
        obtain ⟨ys, dn2, rn2⟩ := hr.dcn_at hm2 e2
        have l1 := rn.len
        have l2 := rn2.len
        refine dn_update (by omega) I dn dn2 (ne hc.1) ?_ (by omega) fun s' I' => ?_
        · rcases hc.2.2 with h | h
          · exact .inl fun q => h (by rw [q] at l1; exact List.length_eq_zero_iff.mp l1)
          · rw [rn2.hashes] at h
            exact .inr (nodup_some h)
        · have x := Ext.write (K := X.K) (u := dnO p (storedAllH xs ys)) hm dn.1 dnO_plain
          have := stored_all_len (xs := xs) (ys := ys)
          exact ⟨.non, _, I', rfl, k m _ _ x (hr.write hm dn.1 dnO_plain ⟨_, upd_same, dn.2.1, by omega, (rn.putAll rn2).monoW x.wk⟩) mk_non⟩
      · cases hf
    · rename_i more e1 e2
      split at hf
      · rename_i hc
        cases hf
        obtain ⟨ys, dn2, rn2⟩ := hr.dcn_at hm2 e2
        have l2 := rn2.len
        have h1 := hr.dct0 hm e1
        obtain ⟨I1, hd⟩ := dn_turn I h1
        have mo := (Ext.write (K := X.K) (u := dnO p []) hm h1 dk_plain).tup
        have dn : DN X.K (upd H p (dnO p [])) p [] := ⟨upd_same, hd, Nat.zero_le _, fun x hx => nomatch hx⟩
        have dn2' : DN X.K (upd H p (dnO p [])) p2 ys := ⟨by rw [upd_ne (Ne.symm (ne hc.1))]; exact dn2.1, dn2.2.1, dn2.2.2.1, fun x hx => good_mono mo (dn2.2.2.2 x hx)⟩
        refine dn_update (by omega) I1 dn dn2' (ne hc.1) ?_ (by simp; omega) fun s' I' => ?_
        · have h := hc.2.2
          rw [rn2.hashes] at h
          exact .inr (nodup_some h)
        · rw [upd_upd] at I'
          have x := Ext.write (K := X.K) (u := dnO p (storedAllH [] ys)) hm h1 dk_plain
          have := stored_all_len (xs := []) (ys := ys)
          have l0 : ([] : List NE).length = 0 := rfl
          exact ⟨.non, _, I', rfl, k m _ _ x (hr.write hm h1 dk_plain ⟨_, upd_same, hd, by omega, (((RNs.nil_iff (xs := [])).mpr rfl).putAll (kvs := []) rn2).monoW x.wk⟩) mk_non⟩
      · cases hf
    · cases hf
  · cases hf
/-! ## list(range(n)) -/
noncomputable def rgL (d : D) : P D := fun hs => match d with
  | .int j => @ite _ (-(2 ^ 62) ≤ j ∧ j ≤ 2 ^ 24) (Classical.propDecidable _) (newL (intL 0 j.toNat) hs) none
  | _ => none
noncomputable def lstRg (fa : Ev → M D) : Ev → M D := fun e => M.bind (fa e) fun d => M.lift (rgL d)
theorem rvs_intL {n : Nat} : RVs K mg m H (intL 0 n) (rgV 0 n) := by
  have e : rgV 0 (n : Int) = ((List.range n).map fun (i : Nat) => (0 : Int) + i).map V.int := by
    unfold rgV
    rw [List.map_map]
    have : ((n : Int) - 0).toNat = n := by omega
    rw [this]
    rfl
  have e2 : intL 0 n = ((List.range n).map fun (i : Nat) => (0 : Int) + i).map D.int := by
    unfold intL
    rw [List.map_map]
    rfl
  rw [e, e2]
  exact rvs_ints
theorem de_lstRg {W : WX} {a : Expr} {fa : Ev → M D} {p p2 q pos : Pos} (hc : X.calm = true) (hg : Gl X "list") (hm : X.mg "list" = none) (hg2 : Gl X "range") (hm2 : X.mg "range" = none) (ha : DE X W a fa)
    (na : starEach [a] X.env = (false, eval a X.env) :: starEach [] X.env) : DE X W (.Call (.Name "list" p) [.Call (.Name "range" p2) [a] [] q] [] pos) (lstRg fa) := by
  refine (pe_listRg hc hg hm (prg_1 hg2 hm2 ha na)).imp fun σ H Q ⟨m, ev, hs, rs, hr, q⟩ => ⟨m, ev, hs, rs, hr, q.bind.mono fun d m1 hs1 H1 e1 hr1 q1 v rv => ?_⟩
  obtain ⟨y, hs2, e, k⟩ := q1.lift
  unfold rgL at e
  split at e
  · rename_i j
    split at e
    · rename_i hc
      cases e
      obtain rfl := rv_int rv
      refine ⟨j, rfl, ⟨by omega, by omega, by omega, by omega, by omega⟩, fun p hp => ?_⟩
      have e : rgV 0 j = rgV 0 (j.toNat : Int) := by
        unfold rgV
        have : (j - 0).toNat = ((j.toNat : Int) - 0).toNat := by omega
        rw [this]
      rw [e]
      exact Bk.lst (Q := Q) (fun m' H' v e hr r => k m' H' e hr v r) hr1 rvs_intL hp
    · cases e
  · cases e
end
end DL
set_option Elab.async false
set_option linter.all false
set_option maxRecDepth 100000
set_option maxHeartbeats 4000000
namespace DL
open PySem PySem.Spec PyProof.Rows L2

/-! ## instances of the package's classes -/
/-- what a def knows of a class -/
structure CI where
  /-- its __init__ -/
  ini : Option (Nat × (List D → M D)) := none
  ms : List (Str × Nat × (List D → M D)) := []
  /-- attributes that may be stored -/
  fl : List Str := []
  /-- classes whose instances are its own -/
  yes : List Str := []
  /-- classes whose instances are none of its own -/
  no : List Str := []
/-! fields -/
def putD (f : Str) (d : D) : List (Str × D) → List (Str × D)
  | [] => [(f, d)]
  | (g, x) :: r => if g = f then (g, d) :: r else (g, x) :: putD f d r
section
variable {K : PySem.W.Frag} {mg : Str → Option Value} {m : List Addr} {H : Hp}
theorem RFs.cons_iff {x : Str} {d : D} {ds : List (Str × D)} {vs : List (Str × V)} : RFs K mg m H ((x, d) :: ds) vs ↔ ∃ v r, vs = (x, v) :: r ∧ RV K mg m H d v ∧ RFs K mg m H ds r := by simp only [RFs]
theorem RFs.look {f : Str} : ∀ {fs : List (Str × D)} {vs : List (Str × V)} {d : D}, RFs K mg m H fs vs → fs.lookup f = some d → ∃ v, vs.lookup f = some v ∧ RV K mg m H d v
  | [], _, _, _, e => by cases e
  | (x, d) :: ds, _, d', h, e => by
    obtain ⟨v, r, rfl, h1, h2⟩ := RFs.cons_iff.mp h
    rw [List.lookup_cons] at e ⊢
    split at e
    · cases e; exact ⟨v, rfl, h1⟩
    · exact h2.look e
theorem RFs.miss {f : Str} : ∀ {fs : List (Str × D)} {vs : List (Str × V)}, RFs K mg m H fs vs → fs.lookup f = none → vs.lookup f = none
  | [], _, h, _ => by simp only [RFs] at h; subst h; rfl
  | (x, d) :: ds, _, h, e => by
    obtain ⟨v, r, rfl, h1, h2⟩ := RFs.cons_iff.mp h
    rw [List.lookup_cons] at e ⊢
    split at e
    · cases e
    · exact h2.miss e
theorem RFs.len : ∀ {fs : List (Str × D)} {vs : List (Str × V)}, RFs K mg m H fs vs → fs.length = vs.length
  | [], _, h => by simp only [RFs] at h; subst h; rfl
  | (x, d) :: ds, _, h => by
    obtain ⟨v, r, rfl, h1, h2⟩ := RFs.cons_iff.mp h
    simp [h2.len]
theorem RFs.put {f : Str} {d : D} {v : V} (hd : RV K mg m H d v) : ∀ {fs : List (Str × D)} {vs : List (Str × V)}, RFs K mg m H fs vs → RFs K mg m H (putD f d fs) (putF f v vs)
  | [], _, h => by
    simp only [RFs] at h; subst h
    exact RFs.cons_iff.mpr ⟨v, [], rfl, hd, by simp only [RFs]⟩
  | (x, y) :: ds, _, h => by
    obtain ⟨w, r, rfl, h1, h2⟩ := RFs.cons_iff.mp h
    unfold putD putF
    split
    · exact RFs.cons_iff.mpr ⟨v, r, rfl, hd, h2⟩
    · exact RFs.cons_iff.mpr ⟨w, _, rfl, h1, h2.put hd⟩
theorem putD_names {f : Str} {d : D} : ∀ {fs : List (Str × D)}, ∀ p ∈ putD f d fs, p.1 = f ∨ ∃ q ∈ fs, q.1 = p.1
  | [], p, h => by
    simp only [putD, List.mem_cons, List.not_mem_nil, or_false] at h
    subst h; exact .inl rfl
  | (x, y) :: ds, p, h => by
    unfold putD at h
    split at h
    · rename_i e
      rcases List.mem_cons.mp h with rfl | h
      · exact .inl e
      · exact .inr ⟨p, List.mem_cons_of_mem _ h, rfl⟩
    · rcases List.mem_cons.mp h with rfl | h
      · exact .inr ⟨_, List.mem_cons_self, rfl⟩
      · rcases putD_names p h with e | ⟨q, hq, e⟩
        · exact .inl e
        · exact .inr ⟨q, List.mem_cons_of_mem _ hq, e⟩
theorem HR.ins_at {hs : Hs} (hr : HR K mg m hs H) {n : Nat} {a : Addr} {c : Str} {fs : List (Str × D)} (hm : m[n]? = some a) (e : hs[n]? = some (.ins c fs)) : ∃ C dx vs, mg c = some (.ref C) ∧ H a = some (.ins C dx vs) ∧ RFs K mg m H fs vs ∧ CF K C ∧ ∀ p ∈ fs, NoAttr K C p.1 := hr.ob n _ a e hm
end
/-! e.f -/
def fldD (f : Str) (d : D) : P D := fun hs => match d with
  | .loc n => match hs[n]? with
    | some (.ins _ fs) => (fs.lookup f).map fun d => (d, hs)
    | _ => none
  | _ => none
def attrO (f : Str) (fa : Ev → M D) : Ev → M D := fun e => M.bind (fa e) fun d => M.lift (fldD f d)
section
variable {X : Cx} {W : WX} {o e value : Expr} {es : List Expr} {f m : Str} {pos apos p2 : Pos} {fa fo fv : Ev → M D} {fs : Ev → M (List D)}
theorem lk_in {α β : Type} [BEq α] [LawfulBEq α] {a : α} {b : β} : ∀ {l : List (α × β)}, l.lookup a = some b → (a, b) ∈ l
  | [], h => by cases h
  | (x, y) :: l, h => by
    rw [List.lookup_cons] at h
    split at h
    · rename_i e
      cases h
      rw [eq_of_beq e]
      exact List.mem_cons_self
    · exact List.mem_cons_of_mem _ (lk_in h)
theorem de_attr (ha : DE X W o fa) (hb : plainBase o = true) : DE X W (.Attribute o f pos) (attrO f fa) :=
  (pe_fld ha (base_plain hb)).imp fun σ H Q ⟨m, ev, hs, rs, hr, q⟩ => ⟨m, ev, hs, rs, hr, q.bind.mono fun d m1 hs1 H1 e1 hr1 q1 v rv => by
    obtain ⟨y, hs2, e, k⟩ := q1.lift
    unfold fldD at e
    split at e
    · split at e
      · rename_i n c fs e0
        obtain ⟨y', ey, e2⟩ := Option.map_eq_some_iff.mp e
        cases e2
        obtain ⟨a, rfl, hm⟩ := rv_loc rv
        obtain ⟨C, dx, vs, hg, hH, hf, cf, hn⟩ := hr1.ins_at hm e0
        obtain ⟨w, ew, rw⟩ := hf.look ey
        exact ⟨a, C, dx, vs, w, rfl, hH, cf.cls, hn _ (lk_in ey), ew, k m1 H1 .refl hr1 w rw⟩
      · cases e
    · cases e⟩
/-! e.f = value -/
def setFldD (ok : Str → Bool) (f : Str) (o v : D) : P D := fun hs => match o with
  | .loc n => match hs[n]? with
    | some (.ins c fs) => if ok c = true ∧ fs.length < 1000 then some (.non, hs.set n (.ins c (putD f v fs))) else none
    | _ => none
  | _ => none
def setFK (ok : Str → Bool) (f : Str) (o v : D) : Ev → S := fun e hs => match setFldD ok f o v hs with
  | some (.non, h1) => some (.nx e, h1)
  | _ => none
def setFS (ok : Str → Bool) (f : Str) (fv fo : Ev → M D) : Ev → S := exprS fv fun v => exprS fo fun o => setFK ok f o v
theorem swaps_attr {v : Expr} {l : Nat} {env : Env} : swapsWith v (some (.Attribute o f p2)) l env = pure false := by
  cases v <;> rfl
theorem ds_setF {ok : Str → Bool} (hok : ∀ c, ok c = true → ∃ C, X.mg c = some (.ref C) ∧ NoAttr X.K C f) (ho : DE X W o fo) (hv : DE X W value fv) : DS X W (.Assign [.Attribute o f p2] value pos) (setFS ok f fv fo) :=
  (ps_fld ho hv swaps_attr).imp fun D σ H ⟨m, ev, hs, rs, hr, q⟩ => ⟨m, ev, hs, rs, hr, (q.expr rs).mono fun y m1 hs1 H1 e1 hr1 q1 v rv => ⟨m1, ev, hs1, rs.mono e1, hr1, (q1.expr (rs.mono e1)).mono fun d m2 hs2 H2 e2 hr2 q2 w rw => by
    unfold setFK at q2
    cases e : setFldD ok f d y hs2 with
    | none => rw [e] at q2; exact q2.elim
    | some r =>
      obtain ⟨r, h1⟩ := r
      rw [e] at q2
      unfold setFldD at e
      split at e
      · split at e
        · rename_i n c fs e0
          split at e
          · rename_i hc
            cases e
            obtain ⟨a, rfl, hm⟩ := rv_loc rw
            obtain ⟨C, dx, vs, hg, hH, hf, cf, hn⟩ := hr2.ins_at hm e0
            obtain ⟨C', hg', na⟩ := hok c hc.1
            rw [hg] at hg'
            cases hg'
            have x1 : Ext X.K m2 H2 m2 (upd H2 a (.ins C dx (putF f v vs))) := Ext.write hm hH ins_plain
            refine ⟨a, C, dx, vs, rfl, hH, cf.cls, na, by rw [← hf.len]; exact hc.2, q2 m2 _ σ x1 (hr2.write hm hH ins_plain ?_) ((rs.mono (e1.trans e2)).mono x1)⟩
            have hf2 : RFs X.K X.mg m2 (upd H2 a (.ins C dx (putF f v vs))) fs vs := hf.monoW x1.wk
            refine ⟨C, dx, _, hg, upd_same, hf2.put ((rv.mono e2).mono x1), cf, fun p hp => ?_⟩
            rcases putD_names p hp with e | ⟨z, hz, e⟩
            · rw [e]; exact na
            · rw [← e]; exact hn z hz
          · cases e
        · cases e
      · cases e⟩⟩
/-! o.m(..) -/
def ownM (tab : Str → Option (Nat × (List D → M D))) (name : Str) (fo : Ev → M D) (fs : Ev → M (List D)) : Ev → M D := fun e => M.bind (fo e) fun x => fun hs => match x with
  | .loc n => match hs[n]? with
    | some (.ins c fl) => match fl.lookup name, tab c with
      | none, some (k, f) => M.bind (fs e) (fun xs => if xs.length + 1 = k then f (x :: xs) else M.stuck) hs
      | _, _ => none
    | _ => none
  | _ => none
/-- the methods of classes -/
def MthOk (X : Cx) (name : Str) (tab : Str → Option (Nat × (List D → M D))) : Prop := ∀ c k f, tab c = some (k, f) → ∃ C j g fd ps, X.mg c = some (.ref C) ∧ Meth X.K C name g ∧ FnG X.prog X.w X.K X.mg X.base (L2.CX X.prog X.w) j g fd ps (spD X.K X.mg k f) ∧ Room j X.A ∧ Binds X.K fd ps []
theorem own_form {args : List Expr} {env : Env} (hp : plainArgs args = true) (hl : args.length < 30) : methodCallForm (args.length + ([] : List Keyword).length) (backTo pos (starEach args env)) (backToKw pos (keywordEach [] env)) = true := by
  unfold methodCallForm
  rw [all_plain hp]
  simpa [backToKw, keywordEach] using hl
theorem de_own {tab : Str → Option (Nat × (List D → M D))} (ht : MthOk X m tab) (gd : X.A.guards = some []) (tk : Takes X W) (ho : DE X W o fo) (ha : DA X W es fs) (h0 : es = [] → fs = fun _ => M.pure []) (hb : plainBase o = true) (hp : plainArgs es = true) (hl : es.length < 30) (hline : (apos.endLine == pos.line) = true) :
    DE X W (.Call (.Attribute o m apos) es [] pos) (ownM tab m fo fs) := by
  refine ⟨fun pins s σ H Q I ⟨mm, ev, hs, rs, hr, q⟩ => ?_⟩
  rw [arm_eval_Call, base_plain hb]
  refine wpAny_bind (thn (ho.run pins s σ H (fun x H1 => ∃ a C dx vs g c k f, x = V.ref a ∧ H1 a = some (.ins C dx vs) ∧ vs.lookup m = none ∧ Cls X.K C ∧ X.mg c = some (.ref C) ∧ tab c = some (k, f) ∧ Meth X.K C m g ∧
      tA X.K X.mg W fs σ H1 fun vs' H2 => spD X.K X.mg k f (V.ref a :: vs') H2 Q (fun cls d H' => W cls d σ H')) I ⟨mm, ev, hs, rs, hr, q.bind.mono fun d m1 hs1 H1 e1 hr1 q1 v rv => ?_⟩) fun u s1 ⟨x, H1, I1, r1, a, C, dx, vs, g, c, k, f, ex, hH, hlk, cls, hg, htab, hm, q1⟩ => ?_)
  · split at q1
    · rename_i n
      split at q1
      · rename_i c fl e0
        split at q1
        · rename_i k f el et
          obtain ⟨a, rfl, hmm⟩ := rv_loc rv
          obtain ⟨C, dx, vs, hg, hH, hf, cf, hn⟩ := hr1.ins_at hmm e0
          obtain ⟨C', j, g, fd, ps, hg', hm, _⟩ := ht c k f et
          rw [hg] at hg'
          cases hg'
          refine ⟨a, C, dx, vs, g, c, k, f, rfl, hH, hf.miss el, cf.cls, hg, et, hm, m1, ev, hs1, rs.mono e1, hr1, ?_⟩
          have q2 := AfterM.bind (K := X.K) (mg := X.mg) (f := fs ev) (g := fun xs => if xs.length + 1 = k then f (.loc n :: xs) else M.stuck) q1
          refine q2.mono fun xs m2 hs2 H2 e2 hr2 q3 vs' rvs' => ?_
          split at q3
          · rename_i hk
            exact ⟨m2, hs2, .loc n :: xs, hr2, RVs.cons (rv.mono e2) rvs', by simpa using hk, q3.wish fun _ _ _ h => h⟩
          · exact q3.elim
        · exact q1.elim
      · exact q1.elim
    · exact q1.elim
  · subst ex
    obtain rfl : u = Value.ref a := r1
    obtain ⟨C', j, g', fd, ps, hg', hm', F, room, binds⟩ := ht c k f htab
    rw [hg] at hg'
    cases hg'
    have eg : g' = g := by
      have := hm'.at_.symm.trans hm.at_
      cases this; rfl
    subst eg
    refine wpAny_bind (wpAny_standAt ?_)
    have hform := own_form (env := X.env) (pos := pos) hp hl
    have hpos : methodCallPos true o X.env apos pos = pure pos := by unfold methodCallPos; simp [hline]
    unfold methodCall
    rw [hform]
    refine wpAny_bind (wpAny_holding (getmeth_ok I1 hH cls hm hlk ?_))
    refine wpAny_bind (wpAny_of_eq hpos ?_)
    cases es with
    | nil =>
      rw [h0 rfl] at q1
      refine PySem.W.callWith_K0 (first := [.ref a]) I1.kIn hm.kp ?_
      obtain ⟨m2, ev2, hs2, rs2, hr2, q2⟩ := q1
      exact runG (E := WE W) (us := [.ref a]) (vs := [.ref a]) F gd room binds (passAt tk σ) I1 (.cons rfl .nil) (q2.pure hr2 [] (RVs.nil_iff.mpr rfl))
    | cons e1 es1 =>
      simp only [plainArgs, Bool.and_eq_true] at hp
      exact PySem.W.callWith_K (first := [.ref a]) (h₀ := X.base) I1.ok.mod.kin hm.kp (thn (ha.run pos pins s1 σ H1 _ I1 q1) fun us s2 ⟨vs, H2, I2, r, q2⟩ => ⟨I2.kIn, runG (E := WE W) (us := .ref a :: us) (vs := .ref a :: vs) F gd room binds (passAt tk σ) I2 (.cons rfl r) q2⟩) (star_cons hp.1) (any_plain hp.2)
/-! C(..) -/
def newI (c : Str) : P D := fun hs => some (.loc hs.length, hs ++ [.ins c []])
def initM (n : Nat) (f : List D → M D) (x : D) (xs : List D) : M D := if xs.length + 1 = n then M.bind (f (x :: xs)) (fun r => match r with
  | .non => M.pure x
  | _ => M.stuck) else M.stuck
def makeM (c : Str) (n : Nat) (f : List D → M D) (fs : Ev → M (List D)) : Ev → M D := fun e => M.bind (fs e) fun xs => M.bind (M.lift (newI c)) fun x => initM n f x xs
structure MkOk (X : Cx) (c : Str) (n : Nat) (f : List D → M D) (k : Nat) (C g : Addr) (fd : FuncData) (ps : List Str) : Prop where
  mg : X.mg c = some (.ref C)
  mkc : Mk X.K C g
  cf : CF X.K C
  fn : FnG X.prog X.w X.K X.mg X.base (L2.CX X.prog X.w) k g fd ps (spD X.K X.mg n f)
  room : Room (k + 1) X.A
  binds : Binds X.K fd ps []
theorem guards_make {A : Around} {C : Addr} {us : List Value} {kw : List (Str × Value)} : (A.under (.builtin "type.__call__" ⟨.ref C :: us, kw⟩)).guards = A.guards := by
  first | rfl | simp [Around.under, Code.isGuard, guardIds]
theorem run_mk {c : Str} {n k : Nat} {f : List D → M D} {C g : Addr} {fd : FuncData} {ps : List Str} (M : MkOk X c n f k C g fd ps) (gd : X.A.guards = some []) (tk : Takes X W) {pins : List (Addr × Obj)} {σ : L2.St} {H : Hp} {s : Shared} {Q : VK} {us : List Value} {vs : List V}
    (I : Inv X pins σ H s) (r : Vals vs us) (h : ∀ x dx, H x = none → H dx = none → dx ≠ x → spD X.K X.mg n f (.ref x :: vs) (upd (upd H dx (.own x)) x (.ins C dx [])) (fun v H2 => v = .non ∧ Q (.ref x) H2) (fun cls d H' => W cls d σ H')) :
    wpAny (model X.prog X.w) X.A (call (.ref C) us) (EP X pins σ Q) X.xe s := by
  have hq := h (s.heap.objs.size + 1) s.heap.objs.size (I.hok.fresh (Nat.le_succ _)) (I.hok.fresh (Nat.le_refl _)) (Nat.ne_of_lt (Nat.lt_succ_self _))
  have I2 := Inv.made (C := C) I
  have r2 : Vals (V.ref (s.heap.objs.size + 1) :: vs) (Value.ref (s.heap.objs.size + 1) :: us) := .cons rfl r
  have bound := M.binds _ (Value.ref (s.heap.objs.size + 1) :: us) I2.kIn (by rw [List.append_nil, ← r2.length]; exact M.fn.many _ _ _ _ hq)
  rw [List.append_nil] at bound
  refine wpAny_call (make_map (f := g) I.kIn M.mkc.makes M.mkc.init (beq_iff_eq.mp M.mkc.fn) (codeAny_mono (M.fn.go (by rw [guards_make]; exact gd) (M.room.make C us []) (I2.env0.make C us []) bound r2 hq) fun res s2 told => ?_))
  match res, told with
  | .error e, told => exact passAt tk σ pins _ _ e s2 I2 told
  | .ok (.ret u), told =>
    obtain ⟨v, H', I3, rv, ev, q3⟩ := I2.after told
    subst ev
    exact ⟨rv, ⟨V.ref (s.heap.objs.size + 1), H', I3, rfl, q3⟩⟩
  | .ok .next, told => exact told.elim
  | .ok .brk, told => exact told.elim
  | .ok .cont, told => exact told.elim
/-- the new object, ahead of its __init__ -/
theorem new_ins {K : PySem.W.Frag} {mg : Str → Option Value} {m : List Addr} {hs : Hs} {H : Hp} {c : Str} {C x dx : Addr} (hr : HR K mg m hs H) (hg : mg c = some (.ref C)) (cf : CF K C) (h1 : H x = none) (h2 : H dx = none) (h3 : dx ≠ x) :
    Ext K m H (m ++ [x]) (upd (upd H dx (.own x)) x (.ins C dx [])) ∧ HR K mg (m ++ [x]) (hs ++ [.ins c []]) (upd (upd H dx (.own x)) x (.ins C dx [])) ∧ RV K mg (m ++ [x]) (upd (upd H dx (.own x)) x (.ins C dx [])) (.loc hs.length) (.ref x) := by
  have x1 : Ext K m H m (upd H dx (.own x)) := Ext.upd_new h2
  have n2 : upd H dx (.own x) x = none := by rw [upd_ne (Ne.symm h3)]; exact h1
  refine ⟨x1.trans (Ext.push n2), (hr.upd_new h2).push n2 ⟨C, dx, [], hg, upd_same, by simp only [RFs], cf, fun p hp => by cases hp⟩, ?_⟩
  simp only [RV]
  exact ⟨x, rfl, by simp [← hr.len]⟩
theorem de_mk {c : Str} {p : Pos} {n k : Nat} {f : List D → M D} {C g : Addr} {fd : FuncData} {ps : List Str} (Z : MkOk X c n f k C g fd ps) (gd : X.A.guards = some []) (tk : Takes X W) (hg : Gl X c) (hdb : (c == ("__debug__" : Str)) = false) (ha : DA X W es fs) (h0 : es = [] → fs = fun _ => M.pure []) (hp : plainArgs es = true) :
    DE X W (.Call (.Name c p) es [] pos) (makeM c n f fs) := by
  refine ⟨fun pins s σ H Q I ⟨mm, ev, hs, rs, hr, q⟩ => wpAny_Call_Name_kw (ld_glob I hg Z.mg ?_ hdb)⟩
  have key : ∀ {xs : List D} {m1 : List Addr} {hs1 : Hs} {H1 : Hp} {vs : List V}, HR X.K X.mg m1 hs1 H1 → RVs X.K X.mg m1 H1 xs vs → AfterM X.K X.mg W σ m1 H1 (M.bind (M.lift (newI c)) (fun x => initM n f x xs) hs1) (fun d m' _ H' => ∀ v, RV X.K X.mg m' H' d v → Q v H') →
      ∀ x dx, H1 x = none → H1 dx = none → dx ≠ x → spD X.K X.mg n f (.ref x :: vs) (upd (upd H1 dx (.own x)) x (.ins C dx [])) (fun v H2 => v = .non ∧ Q (.ref x) H2) (fun cls d H' => W cls d σ H') := by
    intro xs m1 hs1 H1 vs hr1 rvs q1 x dx n1 n2 n3
    obtain ⟨x1, hr2, rx⟩ := new_ins hr1 Z.mg Z.cf n1 n2 n3
    have q2 := q1.bind
    have q3 := q2 _ _ x1 hr2
    unfold initM at q3
    split at q3
    · rename_i hk
      refine ⟨_, _, .loc hs1.length :: xs, hr2, RVs.cons rx (rvs.mono x1), by simpa using hk, ?_⟩
      refine (q3.bind.mono fun r m3 hs3 H3 e3 hr3 q4 v rv => ?_).wish fun _ _ _ h => h
      split at q4
      · obtain rfl := rv_non rv
        exact ⟨rfl, q4.pure hr3 _ (rx.mono e3)⟩
      · exact q4.elim
    · exact q3.elim
  cases es with
  | nil =>
    rw [h0 rfl] at q
    refine PySem.W.callWith_K0 I.kIn Z.mkc.kp (run_mk (W := W) Z gd tk I .nil (key hr (RVs.nil_iff.mpr rfl) ?_))
    exact q
  | cons e1 es1 =>
    simp only [plainArgs, Bool.and_eq_true] at hp
    refine PySem.W.callWith_K (h₀ := X.base) I.ok.mod.kin Z.mkc.kp (thn (ha.run pos pins s σ H (fun vs H1 => ∀ x dx, H1 x = none → H1 dx = none → dx ≠ x → spD X.K X.mg n f (.ref x :: vs) (upd (upd H1 dx (.own x)) x (.ins C dx [])) (fun v H2 => v = .non ∧ Q (.ref x) H2) (fun cls d H' => W cls d σ H')) I
      ⟨mm, ev, hs, rs, hr, q.bind.mono fun xs m1 hs1 H1 e1 hr1 q1 vs rvs => key hr1 rvs q1⟩) fun us s1 ⟨vs, H1, I1, r, q1⟩ => ⟨I1.kIn, run_mk (W := W) Z gd tk I1 r q1⟩) (star_cons hp.1) (any_plain hp.2)
/-! isinstance(x, C) -/
def valTys : List String := ["NoneType", "bool", "int", "str", "list", "tuple", "dict"]
structure CK (K : PySem.W.Frag) (mg : Str → Option Value) (ci : CI) (C : Addr) : Prop where
  vt : ∀ T ∈ valTys, PySem.W.kitOne K (.type T) (.ref C) = some false
  ys : ∀ c ∈ ci.yes, ∃ C', mg c = some (.ref C') ∧ PySem.W.kitOne K (.ref C') (.ref C) = some true
  ns : ∀ c ∈ ci.no, ∃ C', mg c = some (.ref C') ∧ PySem.W.kitOne K (.ref C') (.ref C) = some false
def isiC (ci : CI) (hs : Hs) (d : D) : Option Bool := match tyD hs d with
  | some T => if valTys.contains T = true then some false else none
  | none => match d with
    | .loc n => match hs[n]? with
      | some (.dcn _) => some false
      | some (.ins c _) => if ci.yes.contains c = true then some true else if ci.no.contains c = true then some false else none
      | _ => none
    | _ => none
def isiO (ci : CI) (fa : Ev → M D) : Ev → M D := fun e => M.bind (fa e) fun d hs => match isiC ci hs d with
  | some b => some (.ok (.bl b), hs)
  | none => none
theorem isiC_ok {ci : CI} {C : Addr} (ck : CK X.K X.mg ci C) {m : List Addr} {H : Hp} {hs : Hs} {d : D} {v : V} {b : Bool} (hr : HR X.K X.mg m hs H) (r : RV X.K X.mg m H d v) (h : isiC ci hs d = some b) : ∃ t, TyZ X.K H v t ∧ PySem.W.kitOne X.K t (.ref C) = some b := by
  unfold isiC at h
  split at h
  · rename_i T e
    split at h
    · rename_i hc
      cases h
      exact ⟨_, .old (tyD_ok hr r e), ck.vt T (by simpa using hc)⟩
    · cases h
  · split at h
    · rename_i n _
      obtain ⟨a, rfl, hm⟩ := rv_loc r
      split at h
      · rename_i kvs e0
        cases h
        obtain ⟨xs, dn, _⟩ := hr.dcn_at hm e0
        exact ⟨_, .dn dn, ck.vt _ (by decide)⟩
      · rename_i c fs e0
        obtain ⟨C0, dx, vs, hg, hH, hf, cf, hn⟩ := hr.ins_at hm e0
        split at h
        · rename_i hc
          cases h
          obtain ⟨C', g', k⟩ := ck.ys c (by simpa using hc)
          rw [hg] at g'; cases g'
          exact ⟨_, .ins hH cf, k⟩
        · split at h
          · rename_i hc
            cases h
            obtain ⟨C', g', k⟩ := ck.ns c (by simpa using hc)
            rw [hg] at g'; cases g'
            exact ⟨_, .ins hH cf, k⟩
          · cases h
      · cases h
    · cases h
theorem de_isiO {a : Expr} {y : Str} {p p3 : Pos} {ci : CI} {C : Addr} (ck : CK X.K X.mg ci C) (hg : Gl X "isinstance") (hm : X.mg "isinstance" = none) (hgy : Gl X y) (hmy : X.mg y = some (.ref C)) (hdb : (y == ("__debug__" : Str)) = false) (ha : DE X W a fa) (na : notStar a = true) :
    DE X W (.Call (.Name "isinstance" p) [a, .Name y p3] [] pos) (isiO ci fa) := by
  have cr : CallR X (.builtin "isinstance") (fun vs H Q => ∃ (x : V) (t : Value) (b : Bool), vs = [x, .ref C] ∧ TyZ X.K H x t ∧ PySem.W.kitOne X.K t (.ref C) = some b ∧ Q (.bl b) H) := by
    intro pins s σ H vs us Q I r h
    obtain ⟨x, t, b, rfl, ty, e, q⟩ := h
    cases r with
    | @cons _ u1 _ _ g1 g2 =>
    cases g2 with
    | @cons _ u2 _ _ g3 g4 =>
    cases g4
    cases (show u2 = Value.ref C from g3)
    obtain ⟨PP, Z, pp, hx⟩ := kitZ I g1 ty
    exact PySem.W.kia_one Z I.kIn pp e hx fun tk => ⟨.bl b, H, I.tok tk, rfl, q⟩
  have hA : PA X [a, .Name y p3] (tCons (tE X.K X.mg W fa) (tCons (tC (.ref C)) tNil)) := pa_cons ha (pa_cons (pe_glob (v := .ref C) hgy hmy rfl hdb) pa_nil rfl) (star_cons na)
  refine (pe_callB cr hg hm (by decide +kernel) hA (by decide) (by decide) (star_cons na) rfl).imp fun σ H Q ⟨m, ev, hs, rs, hr, q⟩ => ⟨m, ev, hs, rs, hr, q.bind.mono fun d m1 hs1 H1 e1 hr1 q1 v rv => ?_⟩
  split at q1
  · rename_i b e
    obtain ⟨t, ty, k⟩ := isiC_ok ck hr1 rv e
    exact ⟨v, t, b, rfl, ty, k, q1 m1 H1 .refl hr1 _ mk_bl⟩
  · exact q1.elim
end
end DL
set_option Elab.async false
set_option linter.all false
set_option maxRecDepth 100000
set_option maxHeartbeats 4000000
namespace DL
open PySem PySem.Spec PyProof.Rows L2

/-! ## dict comprehensions, whatever the keys: ints, texts, tuples -/
/-- a pair is put into the dict at D, which stands then so that Nx holds -/
def Sto (K : PySem.W.Frag) (H : Hp) (D : Addr) (y z : V) (Nx : Hp → Prop) : Prop :=
  (∃ kvs k, y = kV k ∧ H D = some (.dK kvs) ∧ kvs.length < sizeLine ∧ Nx (upd H D (.dK (putK kvs k z)))) ∨
  ∃ xs κ b, y = .ref b ∧ GoodK K H κ b ∧ xs.length < sizeLine ∧ (DN K H D xs ∨ (xs = [] ∧ H D = some (.dK []))) ∧ ∀ u, RelV z u → (D == sysModules) = false → Nx (upd H D (dnO D (storedH xs κ b u)))
section
variable {X : Cx} {pins : List (Addr × Obj)} {σ : L2.St} {H : Hp} {s : Shared}
theorem dn_dictSet {a b : Addr} {xs : List NE} {k : NestedKey} {u : Value} {Q : Unit → Shared → Prop} {E : Value → Shared → Prop} (hu : X.A.units + 64 < cLine) (I : Inv X pins σ H s) (d : DN X.K H a xs) (g : GoodK X.K H k b) (h : ∀ s', Inv X pins σ (upd H a (dnO a (storedH xs k b u))) s' → Q () s') :
    wpAny (model X.prog X.w) X.A (dictSet a (.ref b) u) Q E s :=
  wpAny_dictSet_heap (hsz := d.2.2.1) (show X.A.units + 8 < cLine by omega) (good_is I g) (dn_of I d) fun h' dd hs => h _ (dn_write I (by rw [d.1]; exact True.intro) hs dd (stored_bare (fun x hx => (d.2.2.2 x hx).2.2) g.2.2))
theorem sto_run {D : Addr} {y z : V} {u r : Value} {Nx : Hp → Prop} {Q : Unit → Shared → Prop} {E : Value → Shared → Prop} (hu : X.A.units + 65 < cLine) (I : Inv X pins σ H s) (ry : RelV y u) (rz : RelV z r) (h : Sto X.K H D y z Nx) (q : ∀ s' H', Inv X pins σ H' s' → Nx H' → Q () s') :
    wpAny (model X.prog X.w) X.A (dictSet D u r) Q E s := by
  rcases h with ⟨kvs, k, rfl, hD, hz, nx⟩ | ⟨xs, κ, b, rfl, g, hz, hD, nx⟩
  · exact d_dictSet I hD hz ry rz fun s' I' => q s' _ I' nx
  · cases ry
    rcases hD with dn | ⟨rfl, hD⟩
    · exact dn_dictSet (by omega) I dn g fun s' I' => q s' _ I' (nx r rz dn.2.1)
    · obtain ⟨I1, hd⟩ := dn_turn I hD
      have mo : ∀ a xs, SqT X.K H a xs → SqT X.K (upd H D (dnO D [])) a xs := fun a xs h => by
        rcases h with (h | ⟨o, h⟩) | h
        · exact .inl (.inl (by rw [upd_ne fun z => by subst z; rw [hD] at h; cases h]; exact h))
        · exact .inl (.inr ⟨o, by rw [upd_ne fun z => by subst z; rw [hD] at h; cases h]; exact h⟩)
        · exact .inr h
      refine dn_dictSet (by omega) I1 ⟨upd_same, hd, Nat.zero_le _, fun x hx => nomatch hx⟩ (good_mono mo g) fun s' I' => q s' _ I' ?_
      rw [upd_upd]
      exact nx r rz hd
end
/-- {k: v for tg in iter if ..}: D the new dict -/
def tDcn (K : PySem.W.Frag) (wi : TI) (g : TG) (tt : TT) (tk tv : TE) (vs : List Nat) : TE := fun σ H Q => wi σ H fun J H1 => ∀ D, H1 D = none → ∃ W : Nat → Nat → Hp → Prop, (∃ m, W 0 m (upd H1 D (.dK []))) ∧ ∀ i m H, W i m H →
  (J.stop i H ∧ Q (.ref D) H) ∨ (J.go i H ∧ ∃ Nx : Hp → Prop, (∀ H', Nx H' → ∃ m', m' < m ∧ W (i + 1) m' H') ∧ ∀ x H', J.yld i H x H' → g x (L2.wipe σ vs) H' fun σ2 H2 => L2.wipe σ2 vs = L2.wipe σ vs ∧ tt σ2 H2 fun b H3 =>
    if b = true then tk σ2 H3 fun y H4 => tv σ2 H4 fun z H5 => Sto K H5 D y z Nx else Nx H3)
section
variable {X : Cx} {kx vx tg iter : Expr} {ifs : List Expr} {scope : Scope} {own : List (Str × Nat)} {pos : Pos} {wi : TI} {g : TG} {tt : TT} {tk tv : TE}
/-- what is known of a block's parts, in whatever state it begins -/
structure Blk (X : Cx) (tg iter : Expr) (ifs : List Expr) (kx vx : Expr) (scope : Scope) (own : List (Str × Nat)) (wi : TI) (g : TG) (tt : TT) (tk tv : TE) : Prop where
  src : PI X tg iter wi
  ok : BlkOk X.N X.env.scope scope own
  tgt : ∀ (s : Shared) (H : Hp) (C : Addr) (cl : List (Str × Addr)) (fp : List Addr), PG (X.blk s H scope (compEnvC scope cl C X.env) fp) tg g
  tst : ∀ (s : Shared) (H : Hp) (C : Addr) (cl : List (Str × Addr)) (fp : List Addr), PTs (X.blk s H scope (compEnvC scope cl C X.env) fp) ifs tt
  key : ∀ (s : Shared) (H : Hp) (C : Addr) (cl : List (Str × Addr)) (fp : List Addr), PE (X.blk s H scope (compEnvC scope cl C X.env) fp) kx tk
  val : ∀ (s : Shared) (H : Hp) (C : Addr) (cl : List (Str × Addr)) (fp : List Addr), PE (X.blk s H scope (compEnvC scope cl C X.env) fp) vx tv
  fold : ∀ x, foldedSetIterable iter X.env x = pure x
theorem blk_walk {pins : List (Addr × Obj)} {s : Shared} {σ : L2.St} {H : Hp} {Q : VK} {pos' : Pos} {use : Option (Value → Sem Unit)} {Qf : Value → Shared → Prop} (hc : X.calm = true) (hu : X.A.units + 65 < cLine) (hN : X.N.Nodup) (I : Inv X pins σ H s) (B : Blk X tg iter ifs kx vx scope own wi g tt tk tv)
    (h : tDcn X.K wi g tt tk tv (own.map (·.2)) σ H Q)
    (back : ∀ D C s' m H', Inv X pins σ H' s' → Q (.ref D) H' → s'.heap.Ns C m → FpOk X pins H' C → compPost (model X.prog X.w) X.A X.xe use Qf (.ref D) C (.ok .next) s') :
    wpAny (model X.prog X.w) X.A (comprehension (.DictComp kx vx [⟨tg, iter, ifs, 0⟩] scope pos) scope X.env pos' newDict false (eval iter X.env) use) Qf X.xe s := by
  have caught : ∀ y ∈ scope.names, y.2 = .free → ∃ c, X.env.cells.lookup y.1 = some c := fun y hy e => (B.ok.free y hy e).elim (fun k => I.ok.has _ (.inl k)) fun k => I.ok.has _ (.inr k)
  refine wpAny_comprehension_free (use := use) rfl B.fold (closure_ok caught) B.ok.kind (fun y hy e => by rw [B.ok.uniq y hy, e]) (thn (B.src.run pins s σ H _ I h) fun _ _ hx => thn hx fun _ s2 arrived => ?_)
  obtain ⟨it, fp, tn, J, H2, rfl, I2, T, at0, own2, q⟩ := arrived
  refine wpAny_newObj_type (newEnv_comp ?_)
  -- the dict
  obtain ⟨D, eD⟩ : ∃ D, D = s2.heap.objs.size := ⟨_, rfl⟩
  rw [← eD]
  obtain ⟨W, ⟨m0, w0⟩, turn⟩ := q D (I2.hok.fresh (Nat.le_of_eq eD.symm))
  obtain ⟨s3, e3⟩ : ∃ s3 : Shared, s3 = { s2 with heap := s2.heap.push { cls := .type "dict", data := .dict #[] } } := ⟨_, rfl⟩
  have hp3 : s3.heap = s2.heap.push { cls := .type "dict", data := .dict #[] } := by rw [e3]
  obtain ⟨H3, eH⟩ : ∃ H3 : Hp, H3 = upd H2 D (.dK []) := ⟨_, rfl⟩
  have I3 : Inv X pins σ H3 s3 := by
    rw [eH, e3]
    refine I2.laid (t' := s2.toks) (fun _ _ e => Heap.get?_push_of_some _ e) (Nat.le_of_eq eD.symm) ?_
    rw [eD]
    exact dk_empty s2.heap I2.big
  have f3 : ∀ b ∈ fp, FpOk X pins H3 b ∧ b < s3.heap.objs.size := fun b hb => by
    obtain ⟨o, e, _⟩ := T.obj _ _ at0 b hb
    have lt := Heap.lt_size e
    refine ⟨⟨?_, (own2 b hb).2⟩, by rw [hp3, Heap.size_push]; exact Nat.lt_succ_of_lt lt⟩
    rw [eH, upd_ne (by rw [eD]; exact Nat.ne_of_lt lt)]
    exact (own2 b hb).1
  have at3 : tn 0 s3.heap := T.keep _ _ _ at0 fun b _ o e => by rw [hp3]; exact Heap.get?_push_of_some _ e
  have I4 := block_start I3 B.ok hN f3
  rw [← e3]
  rw [← eH] at w0
  show codeAny _ _ (.compStart (.DictComp kx vx [⟨tg, iter, ifs, 0⟩] scope pos) 0 (.ref it) (.ref D) (compEnvC scope (cellsFrom (s3.heap.objs.size + 1) scope.names (cloFrom X.env.cells scope.names [])) s3.heap.objs.size X.env)) (compPost (model X.prog X.w) X.A X.xe use Qf (.ref D) s3.heap.objs.size) { s3 with heap := pushCells (s3.heap.push { cls := .type "dict", data := .dict #[] }) scope.names }
  obtain ⟨ce, ece⟩ : ∃ ce, ce = compEnvC scope (cellsFrom (s3.heap.objs.size + 1) scope.names (cloFrom X.env.cells scope.names [])) s3.heap.objs.size X.env := ⟨_, rfl⟩
  have pg : PG (X.blk s3 H3 scope ce fp) tg g := by rw [ece]; exact B.tgt ..
  have pt : PTs (X.blk s3 H3 scope ce fp) ifs tt := by rw [ece]; exact B.tst ..
  have pk : PE (X.blk s3 H3 scope ce fp) kx tk := by rw [ece]; exact B.key ..
  have pv : PE (X.blk s3 H3 scope ce fp) vx tv := by rw [ece]; exact B.val ..
  have here : ce.locals = s3.heap.objs.size := by rw [ece]; rfl
  obtain ⟨s4, e4⟩ : ∃ s4 : Shared, s4 = { s3 with heap := pushCells (s3.heap.push { cls := .type "dict", data := .dict #[] }) scope.names } := ⟨_, rfl⟩
  rw [← ece, ← e4] at I4 ⊢
  have at4 : tn 0 s4.heap := T.keep _ _ _ at3 fun b _ o e => by rw [e4]; exact pushCells_keeps _ _ _ _ (Heap.get?_push_of_some _ e)
  -- the iterator's objects, from turn to turn
  have same : ∀ {σ' : L2.St} {H' : Hp} {s' : Shared}, Inv (X.blk s3 H3 scope ce fp) [] σ' H' s' → (∀ b ∈ fp, H' b = none) → ∀ b ∈ fp, FpOk (X.blk s3 H3 scope ce fp) [] H' b := fun I' hn b hb =>
    ⟨hn b hb, (I'.ok.exf b hb).1, I'.ok.exfs b hb, .inl hb, fun x c e => (I'.ok.exf b hb).2 x c e, fun p hp => absurd (show p ∈ ([] : List (Addr × Obj)) ++ [] from hp) (by simp)⟩
  let At (n : Nat) (s' : Shared) : Prop := ∃ i H', Inv (X.blk s3 H3 scope ce fp) [] (L2.wipe σ (own.map (·.2))) H' s' ∧ tn i s'.heap ∧ (∀ b ∈ fp, H' b = none) ∧ W i n H'
  have loop : codeAny (model X.prog X.w) X.A (.compLoop (.DictComp kx vx [⟨tg, iter, ifs, 0⟩] scope pos) 0 (.ref it) (.ref D) ce) (compPost (model X.prog X.w) X.A X.xe use Qf (.ref D) s3.heap.objs.size) s4 := by
    refine compLoop_anyD At ?_ m0 ⟨0, H3, I4, at4, fun b hb => (f3 b hb).1.1, w0⟩
    rintro n s5 ⟨i, H5, I5, at5, n5, w5⟩
    rcases turn i n H5 w5 with ⟨stop, qq⟩ | ⟨go, Nx, next, step⟩
    · refine thnF (T.done (X.blk s3 H3 scope ce fp) rfl rfl rfl hc i [] s5 _ H5 (fun _ _ => False) I5 (same I5 n5) at5 stop) fun r s6 ⟨hr, I6⟩ => ?_
      subst hr
      have I7 : Inv X pins σ H5 s6 := I3.call' (ch := fp) I6.os I6.base I6.hok I6.bare fun b hb => let f := (f3 b hb).1; ⟨f.2.2.2.1, f.2.1, f.2.2.2.2.1, f.2.2.2.2.2⟩
      obtain ⟨mm, hn, _⟩ := I6.loc
      exact back D _ s6 mm H5 I7 qq (here ▸ hn) (I3.fpOk (Nat.le_refl _) (here ▸ (show H5 ce.locals = none from I6.free)))
    · refine thnF (T.item (X.blk s3 H3 scope ce fp) rfl rfl rfl hc i [] s5 _ H5 (fun _ _ => False) I5 (same I5 n5) at5 go) fun r s6 ⟨u, hr, h6⟩ => ?_
      subst hr
      refine thnF h6 fun _ s7 ⟨x, H7, I7, r7, y7, at7, n7⟩ => ?_
      refine thnF (pg.run _ s7 _ H7 x u _ (I7.pinned (same I7 n7) (T.obj _ _ at7)) r7 (step x H7 y7)) fun _ s8 ⟨σ8, H8, I8, hw8, q8⟩ => ?_
      refine thnF (pt.run _ s8 σ8 H8 _ I8 q8) fun b s9 ⟨H9, I9, q9⟩ => ?_
      have again : ∀ {s' : Shared} {H' : Hp}, Inv (X.blk s3 H3 scope ce fp) ([] ++ pinsAt fp s7.heap) σ8 H' s' → Nx H' → ∃ m, m < n ∧ At m s' := fun {s' H'} I' nx => by
        obtain ⟨m', lt, w'⟩ := next H' nx
        have stay : ∀ b ∈ fp, ∀ o, s7.heap.get? b = some o → s'.heap.get? b = some o ∧ H' b = none := fun b hb o e =>
          let z := I'.pin (b, o) (List.mem_append_right _ (List.mem_append_right _ (mem_pinsAt hb e)))
          ⟨z.1, z.2.1⟩
        refine ⟨m', lt, i + 1, H', (I'.unpinned (pins := [])).weak (by rw [← hw8, wipe_length]) (fun j v e => ?_), T.keep _ _ _ at7 fun b hb o e => (stay b hb o e).1, fun b hb => ?_, w'⟩
        · rw [← hw8] at e
          exact (wipe_some e).1
        · obtain ⟨o, e, _⟩ := T.obj _ _ at7 b hb
          exact (stay b hb o e).2
      cases b with
      | false =>
        simp only [Bool.false_eq_true, if_false] at q9 ⊢
        exact again I9 q9
      | true =>
        simp only [if_true] at q9 ⊢
        exact thnF (pk.run _ s9 σ8 H9 _ I9 q9) fun _ s10 ⟨yk, H10, I10, r10, q10⟩ => thnF (pv.run _ s10 σ8 H10 _ I10 q10) fun _ s11 ⟨yv, H11, I11, r11, sto⟩ =>
          sto_run (X := X.blk s3 H3 scope ce fp) hu I11 r10 r11 sto fun s12 H12 I12 nx => again I12 nx
  exact codeAny_compStart_dict loop (T.self X.A 0 _ _ _ at4 loop)
theorem pe_dcn (hc : X.calm = true) (hu : X.A.units + 65 < cLine) (hN : X.N.Nodup) (B : Blk X tg iter ifs kx vx scope own wi g tt tk tv) : PE X (.DictComp kx vx [⟨tg, iter, ifs, 0⟩] scope pos) (tDcn X.K wi g tt tk tv (own.map (·.2))) := by
  refine ⟨fun pins s σ H Q I h => ?_⟩
  rw [arm_eval_DictComp]
  refine blk_walk hc hu hN I B h fun D C s' m H' I' q hn ⟨f0, f1, f2, f3, f4, f5⟩ => ⟨m, hn, fun h'' sb => ?_⟩
  exact ⟨.ref D, H', I'.turned (t' := s'.toks) (fun b o hb e => (sb.2 b hb).trans e) f0 f1 f3 f4 f5, rfl, q⟩
/-- y = {..} on one line, y a local -/
theorem ps_setDcn {i : Nat} {y : Str} {py spos : Pos} (hc : X.calm = true) (hu : X.A.units + 65 < cLine) (hN : X.N.Nodup) (hy : X.N[i]? = some y) (hyl : X.env.scope.names.lookup y = some .local) (hsw : swapsWith (.DictComp kx vx [⟨tg, iter, ifs, 0⟩] scope pos) (some (.Name y py)) spos.line X.env = pure true)
    (B : Blk X tg iter ifs kx vx scope own wi g tt tk tv) : PS X (.Assign [.Name y py] (.DictComp kx vx [⟨tg, iter, ifs, 0⟩] scope pos) spos) (tAsg (tDcn X.K wi g tt tk tv (own.map (·.2))) (gName i)) := by
  refine ⟨fun pins s σ H D I h => ?_⟩
  rw [exec_Assign_Name_used _ _ _ _ hsw]
  refine wpAny_bind (wpAny_standAt (wpAny_bind ?_))
  show wpAny _ X.A (do let _ ← comprehension (.DictComp kx vx [⟨tg, iter, ifs, 0⟩] scope pos) scope X.env (firstIterPos [⟨tg, iter, ifs, 0⟩] pos) newDict false (eval iter X.env) (some (assign (.Name y py) X.env))) _ _ s
  have h : tDcn X.K wi g tt tk tv (own.map (·.2)) σ H (fun x H1 => gName i x σ H1 D.nx) := h
  refine wpAny_bind (thn (blk_walk (Qf := fun _ s' => SP X pins D .next s') hc hu hN I B h fun L C s' m H' I' q hn ⟨f0, f1, f2, f3, f4, f5⟩ => ?_) fun _ s' hq => wpAny_pure (wpAny_pure hq))
  show wpAny _ _ (assign (.Name y py) X.env (.ref L)) _ _ _
  refine wpAny_assign_Name (store_ok2 (v := V.ref L) I' hN hy (.inl hyl) rfl (fun s2 I2 ⟨a, sb, ha⟩ => ?_) (.inr hyl))
  have apart : C ≠ a := ha.elim (fun z => z ▸ f1) fun z e => f4 y a z e.symm
  exact ⟨m, hn.sameBut sb apart, fun h3 sb3 => ⟨_, H', I2.turned (t' := s2.toks) (fun b o hb e => (sb3.2 b hb).trans e) f0 f1 f3 f4 f5, q⟩⟩
end
/-! .. in the little machine -/
/-- a plain key -/
def keyP : D → Option L2.Key
  | .int i => some (.inl i)
  | .str x => some (.inr x)
  | _ => none
def putP (kvs : List (D × D)) (κ : L2.Key) (v : D) : List (D × D) := if (kvs.any fun p => decide (keyP p.1 = some κ)) = true then kvs.map (fun p => if keyP p.1 = some κ then (p.1, v) else p) else kvs ++ [(kD κ, v)]
theorem keyP_kD (κ : L2.Key) : keyP (kD κ) = some κ := by cases κ <;> rfl
section
variable {K : PySem.W.Frag} {mg : Str → Option Value} {m : List Addr} {H : Hp}
theorem RKs.cons_iff {k d : D} {ds : List (D × D)} {vs : List (L2.Key × V)} : RKs K mg m H ((k, d) :: ds) vs ↔ ∃ κ v r, vs = (κ, v) :: r ∧ k = kD κ ∧ RV K mg m H d v ∧ RKs K mg m H ds r := by simp only [RKs]
theorem RKs.nil_iff {vs : List (L2.Key × V)} : RKs K mg m H [] vs ↔ vs = [] := by simp only [RKs]
theorem RKs.len : ∀ {kvs : List (D × D)} {ks : List (L2.Key × V)}, RKs K mg m H kvs ks → kvs.length = ks.length
  | [], _, h => by rw [RKs.nil_iff] at h; subst h; rfl
  | (k, d) :: ds, _, h => by
    obtain ⟨κ, v, r, rfl, _, _, h2⟩ := RKs.cons_iff.mp h
    simp [h2.len]
theorem RKs.anyK {κ : L2.Key} : ∀ {kvs : List (D × D)} {ks : List (L2.Key × V)}, RKs K mg m H kvs ks → (kvs.any fun p => decide (keyP p.1 = some κ)) = ks.any fun p => decide (p.1 = κ)
  | [], _, h => by rw [RKs.nil_iff] at h; subst h; rfl
  | (k, d) :: ds, _, h => by
    obtain ⟨κ', v, r, rfl, rfl, _, h2⟩ := RKs.cons_iff.mp h
    rw [List.any_cons, List.any_cons, h2.anyK]
    simp [keyP_kD]
theorem RKs.repl {κ : L2.Key} {d : D} {v : V} (hd : RV K mg m H d v) : ∀ {kvs : List (D × D)} {ks : List (L2.Key × V)}, RKs K mg m H kvs ks → RKs K mg m H (kvs.map fun p => if keyP p.1 = some κ then (p.1, d) else p) (ks.map fun p => if p.1 = κ then (p.1, v) else p)
  | [], _, h => by rw [RKs.nil_iff] at h; subst h; exact RKs.nil_iff.mpr rfl
  | (k, x) :: ds, _, h => by
    obtain ⟨κ', w, r, rfl, rfl, h1, h2⟩ := RKs.cons_iff.mp h
    rw [List.map_cons, List.map_cons]
    simp only [keyP_kD, Option.some.injEq]
    by_cases e : κ' = κ
    · rw [if_pos e, if_pos e]
      exact RKs.cons_iff.mpr ⟨κ', v, _, rfl, rfl, hd, h2.repl hd⟩
    · rw [if_neg e, if_neg e]
      exact RKs.cons_iff.mpr ⟨κ', w, _, rfl, rfl, h1, h2.repl hd⟩
theorem RKs.snoc {κ : L2.Key} {d : D} {v : V} (hd : RV K mg m H d v) : ∀ {kvs : List (D × D)} {ks : List (L2.Key × V)}, RKs K mg m H kvs ks → RKs K mg m H (kvs ++ [(kD κ, d)]) (ks ++ [(κ, v)])
  | [], _, h => by rw [RKs.nil_iff] at h; subst h; exact RKs.cons_iff.mpr ⟨κ, v, [], rfl, rfl, hd, RKs.nil_iff.mpr rfl⟩
  | (k, x) :: ds, _, h => by
    obtain ⟨κ', w, r, rfl, rfl, h1, h2⟩ := RKs.cons_iff.mp h
    exact RKs.cons_iff.mpr ⟨κ', w, _, rfl, rfl, h1, h2.snoc hd⟩
theorem RKs.put {κ : L2.Key} {d : D} {v : V} (hd : RV K mg m H d v) {kvs : List (D × D)} {ks : List (L2.Key × V)} (h : RKs K mg m H kvs ks) : RKs K mg m H (putP kvs κ d) (putK ks κ v) := by
  unfold putP putK
  rw [h.anyK]
  split
  · exact h.repl hd
  · exact h.snoc hd
end
def stoD (n : Nat) (k v : D) : P D := fun hs => match hs[n]?, keyP k with
  | some (.dct kvs), some κ => if kvs.length < sizeLine then some (.non, hs.set n (.dct (putP kvs κ v))) else none
  | _, _ => match setN hs (.loc n) k v with
    | some h => some (.non, h)
    | none => none
theorem sto_of {K : PySem.W.Frag} {mg : Str → Option Value} {m : List Addr} {hs hs' : Hs} {H : Hp} {n : Nat} {a : Addr} {k v r : D} {y z : V} {Nx : Hp → Prop} (hr : HR K mg m hs H) (hm : m[n]? = some a) (rk : RV K mg m H k y) (rz : RV K mg m H v z) (h : stoD n k v hs = some (r, hs'))
    (q : ∀ H', Ext K m H m H' → HR K mg m hs' H' → Nx H') : Sto K H a y z Nx := by
  unfold stoD at h
  split at h
  · rename_i kvs κ e1 e2
    split at h
    · rename_i hz
      cases h
      obtain ⟨ks, h1, h2⟩ := hr.ob _ _ _ e1 hm
      have x := Ext.write (K := K) (u := .dK (putK ks κ z)) hm h1 dk_plain
      refine .inl ⟨ks, κ, ?_, h1, by rw [← h2.len]; exact hz, q _ x (hr.write hm h1 dk_plain ⟨_, upd_same, (h2.monoW x.wk).put (rz.mono x)⟩)⟩
      cases k <;> simp only [keyP] at e2 <;> cases e2
      · exact rv_int rk
      · exact rv_str rk
    · cases h
  · split at h
    · rename_i h1 e
      cases h
      unfold setN at e
      split at e
      rotate_left
      · rename_i hn; exact absurd rfl (hn n)
      rename_i n' en
      cases en
      split at e
      · rename_i κ kvs hk e0
        split at e
        · rename_i hz
          cases e
          obtain ⟨b, rfl, g⟩ := keyN_good hk rk
          obtain ⟨_, k1, k8⟩ := keyN_some hk
          obtain ⟨xs, dn, rn⟩ := hr.dcn_at hm e0
          refine .inr ⟨xs, κ, b, rfl, g, by rw [← rn.len]; exact hz, .inl dn, fun u ru _ => ?_⟩
          have x := Ext.write (K := K) (u := dnO a (storedH xs κ b u)) hm dn.1 dnO_plain
          refine q _ x (hr.write hm dn.1 dnO_plain ⟨_, upd_same, dn.2.1, ?_, (rn.put k1 k8 rk rz ru).monoW x.wk⟩)
          have l := rn.len
          have : (storedH xs κ b u).length ≤ xs.length + 1 := by
            unfold storedH
            split <;> simp
          omega
        · cases e
      · rename_i κ hk e0
        cases e
        obtain ⟨b, rfl, g⟩ := keyN_good hk rk
        obtain ⟨_, k1, k8⟩ := keyN_some hk
        have h1 := hr.dct0 hm e0
        refine .inr ⟨[], κ, b, rfl, g, by rw [sizeLine_eq]; simp, .inr ⟨rfl, h1⟩, fun u ru hd => ?_⟩
        have x := Ext.write (K := K) (u := dnO a (storedH [] κ b u)) hm h1 dk_plain
        refine q _ x (hr.write hm h1 dk_plain ⟨_, upd_same, hd, ?_, ((RNs.nil_iff (xs := [])).mpr rfl |>.put (kvs := []) k1 k8 rk rz ru).monoW x.wk⟩)
        unfold storedH
        rw [sizeLine_eq]
        simp [atKey]
      · cases e
    · cases h
def turnD (t : Tg) (ft : Ev → M Bool) (fk fv : Ev → M D) (ew : Ev) (d : D) : M (Option (D × D)) := match asg t d ew with
  | some e2 => M.bind (ft e2) fun b => if b = true then M.bind (fk e2) fun k => M.bind (fv e2) fun v => M.pure (some (k, v)) else M.pure none
  | none => M.stuck
open Classical in
noncomputable def dcS (ok : Hs → Prop) (turn : D → M (Option (D × D))) (n : Nat) : List D → P Unit
  | [] => fun hs => if ok hs then some ((), hs) else none
  | d :: ds => fun hs => if ok hs then (match turn d hs with
    | some (.ok (some (k, v)), h1) => (match stoD n k v h1 with
      | some (_, h2) => dcS ok turn n ds h2
      | none => none)
    | some (.ok none, h1) => dcS ok turn n ds h1
    | _ => none) else none
noncomputable def dcompM (own : List Nat) (t : Tg) (fi : Ev → M Src) (ft : Ev → M Bool) (fk fv : Ev → M D) : Ev → M D := fun e => M.bind (fi e) fun src hs => match dcS src.ok (turnD t ft fk fv (wipeE e own)) hs.length src.items (hs ++ [.dct []]) with
  | some (_, h) => some (.ok (.loc hs.length), h)
  | none => none
section
variable {X : Cx} {W : WX} {kx vx tg iter : Expr} {ifs : List Expr} {scope : Scope} {own : List (Str × Nat)} {pos spos : Pos} {t : Tg} {fi : Ev → M Src} {ft : Ev → M Bool} {fk fv : Ev → M D}
theorem dc_read (hsl : ∀ i ∈ t.slots, i ∈ own.map (·.2)) {σ : L2.St} {H : Hp} {Q : VK} (h : tE X.K X.mg W (dcompM (own.map (·.2)) t fi ft fk fv) σ H Q) :
    tDcn X.K (tI X.K X.mg W fi) (gD X.K X.mg t) (tT X.K X.mg WF ft) (tE X.K X.mg WF fk) (tE X.K X.mg WF fv) (own.map (·.2)) σ H Q := by
  obtain ⟨m, ev, hs, rs, hr, q⟩ := h
  refine ⟨m, ev, hs, rs, hr, q.bind.mono fun src m1 hs1 H1 e1 hr1 q1 J j Dl hD => ?_⟩
  have rs1 := rs.mono e1
  generalize hvs : own.map (·.2) = vs at *
  obtain ⟨n, en⟩ : ∃ n, n = hs1.length := ⟨_, rfl⟩
  rw [← en] at q1
  have x0 : Ext X.K m1 H1 (m1 ++ [Dl]) (upd H1 Dl (.dK [])) := Ext.push hD
  have hr0 : HR X.K X.mg (m1 ++ [Dl]) (hs1 ++ [.dct []]) (upd H1 Dl (.dK [])) := hr1.push hD ⟨[], upd_same, RKs.nil_iff.mpr rfl⟩
  have loc0 : (m1 ++ [Dl])[n]? = some Dl := by rw [en, ← hr1.len]; simp
  cases ec : dcS src.ok (turnD t ft fk fv (wipeE ev vs)) n src.items (hs1 ++ [.dct []]) with
  | none => rw [ec] at q1; exact q1.elim
  | some r =>
  obtain ⟨r, hs2⟩ := r
  rw [ec] at q1
  refine ⟨fun i k H' => k = src.items.length - i ∧ i ≤ src.items.length ∧ ∃ m' hs', Ext X.K m1 H1 m' H' ∧ HR X.K X.mg m' hs' H' ∧ m'[n]? = some Dl ∧ dcS src.ok (turnD t ft fk fv (wipeE ev vs)) n (src.items.drop i) hs' = some (r, hs2),
    ⟨_, rfl, Nat.zero_le _, _, _, x0, hr0, loc0, by simpa using ec⟩, ?_⟩
  rintro i k H' ⟨rfl, hi', m', hs', x, hr', loc, q'⟩
  by_cases hlt : i < src.items.length
  · rw [List.drop_eq_getElem_cons hlt] at q'
    simp only [dcS] at q'
    split at q'
    · rename_i ok
      refine .inr ⟨j.go i m' hs' H' hlt x.wk hr' ok, fun H2 => ∃ m2 hs3, Ext X.K m1 H1 m2 H2 ∧ HR X.K X.mg m2 hs3 H2 ∧ m2[n]? = some Dl ∧ dcS src.ok (turnD t ft fk fv (wipeE ev vs)) n (src.items.drop (i + 1)) hs3 = some (r, hs2),
        fun H2 h2 => ⟨_, by omega, rfl, hlt, h2⟩, fun v H2 y => ?_⟩
      obtain ⟨d, hd2, x2, hr2, rd⟩ := j.yl i m' hs' H' v H2 x.wk hr' ok y hlt
      have ed : src.items[i] = d := by
        rw [List.getElem?_eq_getElem hlt] at hd2
        exact Option.some.inj hd2
      rw [ed] at q'
      have rw2 : RS X.K X.mg m' H2 (wipeE ev vs) (L2.wipe σ vs) := ((rs1.mono x).mono x2).wipe vs
      cases et : turnD t ft fk fv (wipeE ev vs) d hs' with
      | none => rw [et] at q'; cases q'
      | some r0 =>
        obtain ⟨r0, h1⟩ := r0
        rw [et] at q'
        cases r0 with
        | error x => cases q'
        | ok o =>
          unfold turnD at et
          cases ea : asg t d (wipeE ev vs) with
          | none => rw [ea] at et; cases et
          | some e2 =>
            rw [ea] at et
            simp only [M.bind] at et
            refine ⟨m', wipeE ev vs, d, e2, rw2, rd, ea, fun is ws his r2 => ⟨?_, m', e2, hs', r2, hr2, ?_⟩⟩
            · rw [wipe_sets (fun i hi => hsl i (by rw [his]; exact hi)), wipe_wipe]
            · cases ef : ft e2 hs' with
              | none => rw [ef] at et; cases et
              | some z =>
                obtain ⟨z, h2⟩ := z
                rw [ef] at et
                cases z with
                | error x => cases et
                | ok b =>
                  intro m3 H3 x3 hr3
                  simp only at et
                  cases b with
                  | false =>
                    rw [if_neg Bool.false_ne_true] at et ⊢
                    cases et
                    exact ⟨m3, h1, (x.trans x2).trans x3, hr3, x3.wk.loc (x2.wk.loc loc), q'⟩
                  | true =>
                    rw [if_pos rfl] at et ⊢
                    refine ⟨m3, e2, h2, r2.mono x3, hr3, ?_⟩
                    unfold M.bind at et
                    cases eg : fk e2 h2 with
                    | none => rw [eg] at et; cases et
                    | some z =>
                      obtain ⟨z, h3⟩ := z
                      rw [eg] at et
                      cases z with
                      | error x => cases et
                      | ok k0 =>
                        intro m4 H4 x4 hr4 v4 r4
                        simp only at et
                        refine ⟨m4, e2, h3, (r2.mono x3).mono x4, hr4, ?_⟩
                        cases eh : fv e2 h3 with
                        | none => rw [eh] at et; cases et
                        | some z =>
                          obtain ⟨z, h4⟩ := z
                          rw [eh] at et
                          cases z with
                          | error x => cases et
                          | ok v0 =>
                            cases et
                            intro m5 H5 x5 hr5 v5 r5
                            simp only at q'
                            split at q'
                            · rename_i u h6 es
                              have loc5 := x5.wk.loc (x4.wk.loc (x3.wk.loc (x2.wk.loc loc)))
                              exact sto_of hr5 loc5 (r4.mono x5) r5 es fun H6 x6 hr6 => ⟨m5, h6, ((((x.trans x2).trans x3).trans x4).trans x5).trans x6, hr6, loc5, q'⟩
                            · cases q'
    · cases q'
  · have e : i = src.items.length := by omega
    subst e
    rw [List.drop_length] at q'
    simp only [dcS] at q'
    split at q'
    · rename_i ok
      cases q'
      refine .inl ⟨j.st m' _ H' x.wk hr' ok, q1 m' H' x hr' _ ?_⟩
      simp only [RV]
      exact ⟨Dl, rfl, loc⟩
    · cases q'
theorem de_dcn (hc : X.calm = true) (hu : X.A.units + 65 < cLine) (hN : X.N.Nodup) (hsl : ∀ i ∈ t.slots, i ∈ own.map (·.2)) (B : Blk X tg iter ifs kx vx scope own (tI X.K X.mg W fi) (gD X.K X.mg t) (tT X.K X.mg WF ft) (tE X.K X.mg WF fk) (tE X.K X.mg WF fv)) :
    DE X W (.DictComp kx vx [⟨tg, iter, ifs, 0⟩] scope pos) (dcompM (own.map (·.2)) t fi ft fk fv) := (pe_dcn hc hu hN B).imp fun _ _ _ h => dc_read hsl h
theorem ds_setDcn {i : Nat} {y : Str} {py : Pos} (hc : X.calm = true) (hu : X.A.units + 65 < cLine) (hN : X.N.Nodup) (hy : X.N[i]? = some y) (hyl : X.env.scope.names.lookup y = some .local) (hsw : swapsWith (.DictComp kx vx [⟨tg, iter, ifs, 0⟩] scope pos) (some (.Name y py)) spos.line X.env = pure true)
    (hsl : ∀ i ∈ t.slots, i ∈ own.map (·.2)) (B : Blk X tg iter ifs kx vx scope own (tI X.K X.mg W fi) (gD X.K X.mg t) (tT X.K X.mg WF ft) (tE X.K X.mg WF fk) (tE X.K X.mg WF fv)) :
    DS X W (.Assign [.Name y py] (.DictComp kx vx [⟨tg, iter, ifs, 0⟩] scope pos) spos) (asgS (.one i) (dcompM (own.map (·.2)) t fi ft fk fv)) :=
  (ps_setDcn hc hu hN hy hyl hsw B).imp fun D σ H ⟨m, ev, hs, rs, hr, q⟩ => dc_read hsl ⟨m, ev, hs, rs, hr, (q.expr rs).mono fun d m1 hs1 H1 e1 hr1 q1 v rv => q1 m1 H1 _ .refl hr1 ((rs.mono e1).set rv i)⟩
end
end DL
set_option Elab.async false
set_option linter.all false
set_option maxRecDepth 100000
set_option maxHeartbeats 4000000
namespace DL
open PySem PySem.Spec PyProof.Rows L2

/-! ## sorted(x) of data of any kind that compares, any length -/
/-- what can be gathered into a list: a list, a tuple, a dict's keys -/
def Col (X : Cx) (H : Hp) (v : V) (vs : List V) : Prop := ∀ (pins : List (Addr × Obj)) (s : Shared) (σ : L2.St) (u : Value), Inv X pins σ H s → RelV v u → vs.length ≤ sizeLine ∧ ∀ (A : Around) (E : Value → Shared → Prop) (R : List Value → Shared → Prop), A.handled = none →
  (∀ (h' : Heap) (tk : Nat) (acc : List Value), (∀ b o, s.heap.get? b = some o → h'.get? b = some o) → Vals vs acc → R acc { s with heap := h', toks := tk }) → wpAny (model X.prog X.w) A (collect u) R E s
section
variable {X : Cx} {H : Hp}
theorem collect_tup {prog : Program} {w : World} {A : Around} {E : Value → Shared → Prop} {s : Shared} {l : Addr} {vs : List Value} {Q : List Value → Shared → Prop} (hl : IsTup s.heap l vs.toArray)
    (h : Q vs { s with heap := (s.heap.push (seqObj "list" #[] 0)).update s.heap.objs.size (Obj.mapSeq (· ++ vs.toArray)) }) (hsz : vs.length ≤ sizeLine) :
    wpAny (model prog w) A (collect (.ref l)) Q E s := by
  obtain ⟨o, ho, hc, n, hd⟩ := id hl
  unfold collect
  refine wpAny_bind (wpAny_runValue (codeAny_builtin entry_proto_collect' ?_))
  show wpAny _ _ (do again (.builtin "list.__iadd__" ⟨[← newList [], .ref l], []⟩)) _ _ s
  refine wpAny_bind (wpAny_newList (wpAny_pure ⟨Code.quiet_builtin _ (by decide +kernel), codeAny_builtin entry_list_iadd' ?_⟩))
  show wpAny _ _ (Builtin.List.listExtendWith (.ref s.heap.objs.size) (.ref l) (.ref s.heap.objs.size)) _ _ { s with heap := s.heap.push (seqObj "list" #[] 0) }
  unfold Builtin.List.listExtendWith
  have ho' : (s.heap.push (seqObj "list" #[] 0)).get? l = some o := Heap.get?_push_of_some _ ho
  refine wpAny_bind (wpAny_typeOf (T := "tuple") ⟨o, ho', hc⟩ ?_)
  have ht : (Value.type "tuple" == Value.type "tuple") = true := by rfl
  rw [if_pos (by rw [ht]; simp)]
  refine wpAny_bind (listItems_at ho' hd ?_)
  refine wpAny_bind (listItems_at (xs := #[]) (n := 0) (Heap.get?_push_size _ rfl) rfl ?_)
  rw [if_neg (by simp)]
  refine wpAny_bind (listUpdate_at (xs := #[]) (n := 0) (Heap.get?_push_size _ rfl) rfl ?_ (Nat.zero_le _) (by show (#[] ++ vs.toArray).size ≤ sizeLine + 1; simp only [Array.size_append, List.size_toArray, List.length_nil]; omega))
  refine wpAny_pure ?_
  show wpAny (model prog w) A (do
      let o ← load s.heap.objs.size
      match o.data with
      | .seq xs _ => pure xs.toList
      | _ => unsupported "internal:collect") Q E { s with heap := (s.heap.push (seqObj "list" #[] 0)).update s.heap.objs.size (Obj.mapSeq (· ++ vs.toArray)) }
  refine wpAny_bind (wpAny_load (get?_update_seq (Heap.get?_push_size _ rfl) _) ?_)
  show wpAny _ _ (pure ((#[] : Array Value) ++ vs.toArray).toList) Q E _
  rw [show ((#[] : Array Value) ++ vs.toArray).toList = vs by simp]
  exact wpAny_pure h
theorem col_keep {h : Heap} {vs : List Value} : ∀ b o, h.get? b = some o → ((h.push (seqObj "list" #[] 0)).update h.objs.size (Obj.mapSeq (· ++ vs.toArray))).get? b = some o := fun b o e => by
  rw [Heap.get?_update_ne _ _ _ _ (Nat.ne_of_lt (Heap.lt_size e))]
  exact Heap.get?_push_of_some _ e
theorem col_lst {a : Addr} {xs : List V} (h : SqL X.K H a xs) : Col X H (.ref a) xs := by
  intro pins s σ u I r
  cases r
  obtain ⟨its, rv, pl, hz⟩ := I.list h
  refine ⟨hz, fun A E R hh k => collect_list pl.isList ?_ (by rw [← rv.length]; exact hz)⟩
  exact k _ s.toks its col_keep rv
theorem col_tup {a : Addr} {xs : List V} (h : SqT X.K H a xs) : Col X H (.ref a) xs := by
  intro pins s σ u I r
  cases r
  obtain ⟨its, rv, pl, hz⟩ := I.tuple h
  refine ⟨hz, fun A E R hh k => collect_tup pl ?_ (by rw [← rv.length]; exact hz)⟩
  exact k _ s.toks its col_keep rv
theorem kdl_raw {prog : Program} {w : World} {d : Addr} {es : Array DictEntry} {ep : Nat} (lo : (d == sysModules) = false) : PySem.W.KdlSrc prog w "dict" d d es.size (fun i v => ∃ hi : i < es.size, v = es[i].key) (fun h => h.DictRaw d es ep) where
  type := fun _ hm => hm.typeIs
  there := fun _ hm => ⟨let ⟨_, ho, _⟩ := hm; Heap.lt_size ho, let ⟨_, ho, _⟩ := hm; Heap.lt_size ho⟩
  keep := fun _ _ hm hk => hm.at fun o e => hk d (.inl rfl) o e
  notList := by decide
  notTuple := by decide
  hint := fun _ _ _ _ hm hq => PySem.W.kdl_hint_dict hm.typeIs hq
  iter := fun _ _ hh hm => ⟨_, _, (fun _ _ hq => wpAny_pyIter_dict_raw lo hm hq), Walks.rawKeys hh _ d (Nat.ne_of_lt (let ⟨_, ho, _⟩ := hm; Heap.lt_size ho)) es ep, ⟨⟨_, Heap.get?_push_size _ rfl, rfl, rfl⟩, hm.at fun _ e => Heap.get?_push_of_some _ e⟩⟩
theorem vals_at {xs : List V} {us : List Value} (hl : xs.length = us.length) (h : ∀ (j : Nat) (x : V) (u : Value), xs[j]? = some x → us[j]? = some u → RelV x u) : Vals xs us := by
  induction xs generalizing us with
  | nil => cases us with
    | nil => exact .nil
    | cons _ _ => simp at hl
  | cons x xs ih => cases us with
    | nil => simp at hl
    | cons u us => exact .cons (h 0 x u rfl rfl) (ih (by simpa using hl) fun j a b e1 e2 => h (j + 1) a b (by simpa using e1) (by simpa using e2))
theorem col_dn {a : Addr} {xs : List NE} (h : DN X.K H a xs) : Col X H (.ref a) (xs.map fun x => .ref x.2.1) := by
  intro pins s σ u I r
  cases r
  obtain ⟨es, ep, hraw, hsz, hat⟩ := (dn_of I h).raw
  refine ⟨by rw [List.length_map]; exact h.2.2.1, fun A E R hh k => PySem.W.kdu_collect (kdl_raw h.2.1) hh hraw (by rw [hsz]; exact h.2.2.1) fun h' tk acc hk hacc => k h' tk acc.toList hk ?_⟩
  refine vals_at (by have := hacc.1; rw [← Array.length_toList] at this; rw [List.length_map]; omega) fun j x u e1 e2 => ?_
  obtain ⟨hi, e3⟩ := hacc.2 j u (by rw [← Array.getElem?_toList]; exact e2)
  obtain ⟨y, ey, ek, _⟩ := hat j hi
  rw [List.getElem?_map, ey] at e1
  cases e1
  rw [e3, ek]
  exact rfl
theorem col_dk (I0 : True) {a : Addr} {ks : List (Key × V)} (h : H a = some (.dK ks)) : Col X H (.ref a) (ks.map fun p => kV p.1) := by
  intro pins s σ u I r
  cases r
  obtain ⟨z, lo, vs, rel, dd⟩ := dk_rd I.hok (.inl h)
  obtain ⟨ep, hat⟩ := dd.dictAt
  have ek : (ks.map fun kv => kV kv.1) = vs.map fun p => kV p.1 := by
    have e := congrArg (List.map kV) rel.keys
    rw [List.map_map, List.map_map] at e
    exact e
  refine ⟨by rw [List.length_map]; exact z, fun A E R hh k => PySem.W.kdu_collect (PySem.W.kdl_dict (knd := mixKind X.prog X.w) (kvs := vs) (ep := ep) lo) hh hat (by rw [← rel.length]; exact z) fun h' tk acc hk hacc => k h' tk acc.toList hk ?_⟩
  rw [ek]
  exact keys_at (by rw [Array.length_toList]; exact hacc.1) fun j v e => hacc.2 j v (by rw [← Array.getElem?_toList]; exact e)

/-! the rule -/
def pdT1 : PyData → Bool
  | .tuple (_ :: _) => true
  | _ => false
def pdPlain : PyData → Bool
  | .none => false
  | .tuple _ => false
  | _ => true
def srtOk (ps : List PyData) : Bool := (ps.all fun d => ps.all fun d' => PySem.W.alike d d') && (ps.all pdT1 || ps.all pdPlain) && ps.all fun d => decide (d.depth ≤ 50)
theorem srtOk_iff {ps : List PyData} (h : srtOk ps = true) : PySem.W.AllAlike ps ∧ PySem.W.Sortable ps ∧ ∀ d ∈ ps, d.depth ≤ 50 := by
  unfold srtOk at h
  simp only [Bool.and_eq_true, Bool.or_eq_true, List.all_eq_true, decide_eq_true_eq] at h
  obtain ⟨⟨h1, h2⟩, h3⟩ := h
  refine ⟨fun d hd d' hd' => h1 d hd d' hd', ?_, h3⟩
  rcases h2 with h2 | h2
  · refine .inl fun d hd => ?_
    have q := h2 d hd
    unfold pdT1 at q
    split at q
    · exact ⟨_, _, rfl⟩
    · cases q
  · refine .inr fun d hd => ?_
    have q := h2 d hd
    exact ⟨fun e => (by rw [e] at q; cases q), fun xs e => (by rw [e] at q; cases q)⟩
def rSrt (X : Cx) : List V → Hp → VK → Prop := fun xs H Q => ∃ (v : V) (bs : List (V × PyData)), xs = [v] ∧ Col X H v (bs.map (·.1)) ∧ (∀ b ∈ bs, Dp X.K H b.1 b.2) ∧ srtOk (bs.map (·.2)) = true ∧
  ∀ p, H p = none → Q (.ref p) (upd H p (.lst ((bs.mergeSort (PySem.W.dataLe false (·.2))).map (·.1))))
theorem each_of_vals {R : Value → V × PyData → Prop} : ∀ {bs : List (V × PyData)} {us : List Value}, Vals (bs.map (·.1)) us → (∀ b ∈ bs, ∀ u, RelV b.1 u → R u b) → PySem.W.EachIs R us bs
  | [], us, r, _ => by cases r; exact .nil
  | b :: bs, us, r, h => by
    cases r with
    | cons h1 h2 => exact .cons (h b List.mem_cons_self _ h1) (each_of_vals h2 fun b hb => h b (List.mem_cons_of_mem _ hb))
theorem vals_of_each : ∀ {bs : List (V × PyData)} {us : List Value}, PySem.W.EachIs (fun u b => RelV b.1 u) us bs → Vals (bs.map (·.1)) us
  | _, _, .nil => .nil
  | _, _, .cons h1 h2 => .cons h1 (vals_of_each h2)
theorem cr_srt (hc : X.calm = true) (hu : X.A.units + 65 < cLine) : CallR X (.builtin "sorted") (rSrt X) := by
  intro pins s σ H xs us Q I r q
  obtain ⟨v, bs, rfl, col, hd, ok, q⟩ := q
  obtain ⟨u, rfl, rx⟩ := vals1 r
  obtain ⟨hal, hk, hdep⟩ := srtOk_iff ok
  obtain ⟨hz, go⟩ := col pins s σ u I rx
  rw [List.length_map] at hz
  refine Calls.call_function_entry PyProof.Rows.kind_sorted PyProof.Rows.plain_sorted PyProof.Rows.entry_sorted (PyProof.Rows.args_sorted1 _) ?_
  unfold Builtin.«sorted»
  refine wpAny_bind (m := checkCount "sorted" 1 1 _) (wpAny_pure ?_)
  refine wpAny_bind (go X.A.in1 _ _ (I.ok.hd hc) fun h' tk acc hk' hv => ?_)
  have I1 : Inv X pins σ H { s with heap := h', toks := tk } := I.kept hk'
  have hl : acc.length = bs.length := by rw [← hv.length, List.length_map]
  have e : PySem.W.EachIs (fun u b => RelV b.1 u) acc bs := each_of_vals hv fun b hb u r => r
  have er : PySem.W.EachIs (fun u b => ∃ as, Reads h' u b.2 as) acc bs := each_of_vals hv fun b hb u r => Dp.reads I1 b.2 b.1 u (hd b hb) r
  refine wpAny_bind (wpAny_newList ?_ (by rw [hl]; exact hz))
  have hoL : (h'.push (seqObj "list" acc.toArray 0)).get? h'.objs.size = some (seqObj "list" acc.toArray 0) := Heap.get?_push_size _ rfl
  show wpAny _ _ _ _ _ { s with heap := h'.push (seqObj "list" acc.toArray 0), toks := tk }
  have er' : PySem.W.EachIs (fun u b => ∃ as, Reads (PySem.W.sortingHeap (h'.push (seqObj "list" acc.toArray 0)) h'.objs.size acc) u b.2 as) acc bs := er.mono fun _ _ ⟨as, r⟩ =>
    ⟨as, PyProof.Rows.Reads.keeps (fun b o e => PySem.W.sortingHeap_old (Nat.ne_of_lt (Heap.lt_size e)) (Heap.get?_push_of_some _ e)) r⟩
  refine wpAny_bind (wpAny_holding (wpAny_call_entry PyProof.Rows.slot_list_sort ⟨_, hoL, rfl⟩ PyProof.Rows.entry_list_sort
    (PySem.W.list_sort_vals (s := { s with heap := h'.push (seqObj "list" acc.toArray 0), toks := tk }) hoL
      (PySem.W.SortsAt.data (s := { s with heap := PySem.W.sortingHeap (h'.push (seqObj "list" acc.toArray 0)) h'.objs.size acc, toks := tk }) (PySem.W.each_map (R := fun v d => ∃ as, Reads (PySem.W.sortingHeap (h'.push (seqObj "list" acc.toArray 0)) h'.objs.size acc) v d as) (fun b : V × PyData => b.2) er') hal hk ?_)
      (by rw [hl]; exact hz) ⟨_, rfl, ?_⟩) (PyProof.Rows.args_list_sort _)))
  · intro d hd
    have := hdep d hd
    show X.A.units + 1 + 1 + d.depth < cLine
    omega
  · have hout := PySem.W.sortVals_data false e er' hal
    have hlen : (((bs.mergeSort (PySem.W.dataLe false (·.2))).map (·.1))).length ≤ sizeLine := by
      rw [List.length_map, (List.mergeSort_perm _ _).length_eq]; exact hz
    obtain ⟨e', he'⟩ := PyProof.Rows.sortedHeap_at (vs := acc) (out := (PySem.W.sortVals (PySem.W.dataKind (PySem.W.sortingHeap (h'.push (seqObj "list" acc.toArray 0)) h'.objs.size acc) (bs.map (·.2))) false acc acc).toArray) hoL
    refine wpAny_pure ⟨_, rfl, .ref h'.objs.size, upd H h'.objs.size (.lst ((bs.mergeSort (PySem.W.dataLe false (·.2))).map (·.1))), I1.laid (t' := tk) (fun b u e => ?_) (Nat.le_refl _)
      (show ObjOk X.prog X.w _ _ _ (.lst ((bs.mergeSort (PySem.W.dataLe false (·.2))).map (·.1))) from ⟨hlen, _, e', vals_of_each hout, he'⟩), rfl, q _ (I1.hok.fresh (Nat.le_refl _))⟩
    have hb : b < h'.objs.size := Heap.lt_size e
    rw [PyProof.Rows.sortedHeap_old (Nat.ne_of_lt hb) (by rw [size_push']; exact Nat.lt_succ_of_lt hb)]
    exact Heap.get?_push_of_some _ e
end
/-! .. in the little machine -/
def keyD : L2.Key → D := kD
/-- what can be gathered -/
def itemsD (hs : Hs) : D → Option (List D)
  | .tup xs => some xs
  | .loc n => match hs[n]? with
    | some (.lst xs) => some xs
    | some (.dcn kvs) => some (kvs.map (·.1))
    | some (.dct kvs) => some (kvs.map (·.1))
    | _ => none
  | .frl xs => some xs
  | _ => none
def srtL (hs : Hs) (xs : List D) : Option (List D) := match D.pys (derefs hs 40) xs with
  | some ps => if srtOk ps = true then some (((xs.zip ps).mergeSort (PySem.W.dataLe false (·.2))).map (·.1)) else none
  | none => none
def sortD (ds : List D) : P D := fun hs => match ds with
  | [d] => match itemsD hs d with
    | some xs => match srtL hs xs with
      | some ys => newL ys hs
      | none => none
    | none => none
  | _ => none
section
variable {X : Cx}
theorem rvs_keysK {K : PySem.W.Frag} {mg : Str → Option Value} {m : List Addr} {H : Hp} : ∀ {kvs : List (D × D)} {ks : List (Key × V)}, RKs K mg m H kvs ks → RVs K mg m H (kvs.map (·.1)) (ks.map fun p => kV p.1)
  | [], _, h => by simp only [RKs] at h; subst h; exact RVs.nil_iff.mpr rfl
  | (k, d) :: ds, _, h => by
    simp only [RKs] at h
    obtain ⟨κ, v, r, rfl, rfl, h1, h2⟩ := h
    refine RVs.cons ?_ (rvs_keysK h2)
    cases κ with
    | inl i => exact mk_int
    | inr x => exact mk_str
theorem rvs_keysN {K : PySem.W.Frag} {mg : Str → Option Value} {m : List Addr} {H : Hp} : ∀ {kvs : List (D × D)} {xs : List NE}, RNs K mg m H kvs xs → RVs K mg m H (kvs.map (·.1)) (xs.map fun x => .ref x.2.1)
  | [], _, h => by simp only [RNs] at h; subst h; exact RVs.nil_iff.mpr rfl
  | (k, d) :: ds, _, h => by
    simp only [RNs] at h
    obtain ⟨κ, b, u, v, r, rfl, h1, h2, h3, h4, h5, h6⟩ := h
    exact RVs.cons h3 (rvs_keysN h6)
theorem items_col {m : List Addr} {H : Hp} {hs : Hs} {d : D} {xs : List D} {v : V} (hr : HR X.K X.mg m hs H) (r : RV X.K X.mg m H d v) (h : itemsD hs d = some xs) : ∃ vs, Col X H v vs ∧ RVs X.K X.mg m H xs vs := by
  unfold itemsD at h
  split at h
  · cases h
    obtain ⟨a, vs, rfl, h1, h2⟩ := rv_tup r
    exact ⟨vs, col_tup h1, h2⟩
  · obtain ⟨a, rfl, hm⟩ := rv_loc r
    obtain ⟨o, ho, ro⟩ := hr.at' hm
    rw [ho] at h
    cases o with
    | lst ys => cases h; obtain ⟨vs, h1, h2⟩ := ro; exact ⟨vs, col_lst (SqL.of h1), h2⟩
    | dct kvs => cases h; obtain ⟨ks, h1, h2⟩ := ro; exact ⟨_, col_dk trivial h1, rvs_keysK h2⟩
    | dcn kvs =>
      cases h
      obtain ⟨ys, h1, h2, h3, h4⟩ := ro
      exact ⟨_, col_dn ⟨h1, h2, h3, h4.good⟩, rvs_keysN h4⟩
    | ins _ _ => cases h
    | set _ => cases h
  · cases h
    obtain ⟨a, vs, rfl, h1, h2⟩ := rv_frl r
    exact ⟨vs, col_lst h1.sql, h2⟩
  · cases h
theorem pys_dp {K : PySem.W.Frag} {mg : Str → Option Value} {m : List Addr} {H : Hp} {hs : Hs} (hr : HR K mg m hs H) : ∀ {ds : List D} {ps : List PyData} {vs : List V}, D.pys (derefs hs 40) ds = some ps → RVs K mg m H ds vs → vs.length = ps.length ∧ ds.length = ps.length ∧ ∀ b ∈ vs.zip ps, Dp K H b.1 b.2
  | [], ps, vs, h, r => by
    simp only [D.pys] at h; cases h
    rw [RVs.nil_iff] at r; subst r
    exact ⟨rfl, rfl, fun b hb => by simp at hb⟩
  | d :: ds, ps, vs, h, r => by
    simp only [D.pys] at h
    obtain ⟨v, w, rfl, r1, r2⟩ := RVs.cons_iff.mp r
    cases e1 : D.py (derefs hs 40) d with
    | none => rw [e1] at h; cases h
    | some p =>
      cases e2 : D.pys (derefs hs 40) ds with
      | none => rw [e1, e2] at h; cases h
      | some q =>
        rw [e1, e2] at h
        cases h
        obtain ⟨l1, l2, h3⟩ := pys_dp hr e2 r2
        refine ⟨by simp [l1], by simp [l2], fun b hb => ?_⟩
        rw [List.zip_cons_cons] at hb
        rcases List.mem_cons.mp hb with rfl | hb
        · exact data_ok hr (show D.data hs d = some p from e1) r1
        · exact h3 b hb
theorem rvs_zip {K : PySem.W.Frag} {mg : Str → Option Value} {m : List Addr} {H : Hp} : ∀ {zs : List (D × V × PyData)}, (∀ z ∈ zs, RV K mg m H z.1 z.2.1) → RVs K mg m H (zs.map (·.1)) (zs.map (·.2.1))
  | [], _ => RVs.nil_iff.mpr rfl
  | z :: zs, h => RVs.cons (h z List.mem_cons_self) (rvs_zip fun z hz => h z (List.mem_cons_of_mem _ hz))
theorem zip_rv {K : PySem.W.Frag} {mg : Str → Option Value} {m : List Addr} {H : Hp} : ∀ {ds : List D} {vs : List V} {ps : List PyData}, RVs K mg m H ds vs → ∀ z ∈ ds.zip (vs.zip ps), RV K mg m H z.1 z.2.1
  | [], _, _, _, z, hz => by simp at hz
  | d :: ds, vs, ps, r, z, hz => by
    obtain ⟨v, w, rfl, r1, r2⟩ := RVs.cons_iff.mp r
    cases ps with
    | nil => simp at hz
    | cons p ps =>
      rw [List.zip_cons_cons, List.zip_cons_cons] at hz
      rcases List.mem_cons.mp hz with rfl | hz
      · exact r1
      · exact zip_rv r2 z hz
theorem zip_a : ∀ {ds : List D} {vs : List V} {ps : List PyData}, ds.length = ps.length → vs.length = ps.length → (ds.zip (vs.zip ps)).map (fun z => (z.1, z.2.2)) = ds.zip ps
  | [], _, _, _, _ => by simp
  | d :: ds, [], [], h, _ => by simp at h
  | d :: ds, v :: vs, p :: ps, h1, h2 => by
    simp only [List.zip_cons_cons, List.map_cons]
    rw [zip_a (by simpa using h1) (by simpa using h2)]
  | d :: ds, [], p :: ps, _, h => by simp at h
  | d :: ds, v :: vs, [], h, _ => by simp at h
theorem zip_b : ∀ {ds : List D} {vs : List V} {ps : List PyData}, ds.length = ps.length → vs.length = ps.length → (ds.zip (vs.zip ps)).map (fun z => z.2) = vs.zip ps
  | [], [], [], _, _ => by simp
  | [], v :: vs, [], _, h => by simp at h
  | [], _, p :: ps, h, _ => by simp at h
  | d :: ds, [], [], h, _ => by simp at h
  | d :: ds, v :: vs, p :: ps, h1, h2 => by
    simp only [List.zip_cons_cons, List.map_cons]
    rw [zip_b (by simpa using h1) (by simpa using h2)]
  | d :: ds, [], p :: ps, _, h => by simp at h
  | d :: ds, v :: vs, [], h, _ => by simp at h
theorem sort_map {α β : Type} (f : α → β) (k : β → PyData) (l : List α) : (l.mergeSort (PySem.W.dataLe false (fun a => k (f a)))).map f = (l.map f).mergeSort (PySem.W.dataLe false k) :=
  List.map_mergeSort (fun a _ b _ => rfl)
theorem srt_run {m : List Addr} {H : Hp} {hs : Hs} {d : D} {xs ys : List D} {v : V} (hr : HR X.K X.mg m hs H) (r : RV X.K X.mg m H d v) (h : itemsD hs d = some xs) (h2 : srtL hs xs = some ys) {Q : VK}
    (q : ∀ p ws, RVs X.K X.mg m H ys ws → H p = none → Q (.ref p) (upd H p (.lst ws))) : rSrt X [v] H Q := by
  obtain ⟨vs, col, rvs⟩ := items_col hr r h
  unfold srtL at h2
  split at h2
  · rename_i ps ep
    split at h2
    · rename_i ok
      cases h2
      obtain ⟨l1, l2, hd⟩ := pys_dp hr ep rvs
      have e1 : (vs.zip ps).map (·.1) = vs := List.map_fst_zip (by omega)
      have e2 : (vs.zip ps).map (·.2) = ps := List.map_snd_zip (by omega)
      refine ⟨v, vs.zip ps, rfl, by rw [e1]; exact col, hd, by rw [e2]; exact ok, fun p hp => q p _ ?_ hp⟩
      have k1 : ((xs.zip ps).mergeSort (PySem.W.dataLe false (·.2))).map (·.1) = ((xs.zip (vs.zip ps)).mergeSort (PySem.W.dataLe false (·.2.2))).map (·.1) := by
        rw [← zip_a (vs := vs) l2 l1, ← sort_map (fun z : D × V × PyData => (z.1, z.2.2)) (·.2), List.map_map]
        rfl
      have k2 : ((vs.zip ps).mergeSort (PySem.W.dataLe false (·.2))).map (·.1) = ((xs.zip (vs.zip ps)).mergeSort (PySem.W.dataLe false (·.2.2))).map (·.2.1) := by
        have := sort_map (fun z : D × V × PyData => z.2) (·.2) (xs.zip (vs.zip ps))
        rw [zip_b l2 l1] at this
        rw [← this, List.map_map]
        rfl
      rw [k1, k2]
      exact rvs_zip fun z hz => zip_rv rvs z (List.mem_mergeSort.mp hz)
    · cases h2
  · cases h2
theorem sortD_ok (hc : X.calm = true) (hu : X.A.units + 65 < cLine) : CallR X (.builtin "sorted") (rPn X.K X.mg sortD) := by
  intro pins s σ H vs us Q I r h
  obtain ⟨m, hs, ds, d, hs', hr, rs, hf, k⟩ := h
  unfold sortD at hf
  split at hf
  · split at hf
    · split at hf
      · rename_i a _ xs e1 _ ys e2
        cases hf
        obtain ⟨v, rfl, r1⟩ := rvs1 rs
        exact cr_srt hc hu pins s σ H _ us Q I r (srt_run hr r1 e1 e2 fun p ws rw hp => k.lst hr rw hp)
      · cases hf
    · cases hf
  · cases hf
end
end DL
set_option Elab.async false
set_option linter.all false
set_option maxRecDepth 100000
set_option maxHeartbeats 4000000
namespace DL
open PySem PySem.Spec PyProof.Rows L2

/-! ## rows: lists of ints in their order -/
theorem row_irrefl (a : List Int) : ¬ a < a := List.lt_irrefl a
theorem row_trans {a b c : List Int} (h : a < b) (k : b < c) : a < c := List.lt_trans h k
theorem row_tri (a b : List Int) : a < b ∨ a = b ∨ b < a := by
  by_cases h : a < b
  · exact .inl h
  · by_cases k : b < a
    · exact .inr (.inr k)
    · exact .inr (.inl (List.le_antisymm (List.not_lt.mp k) (List.not_lt.mp h)))
theorem row_asymm {a b : List Int} (h : a < b) : ¬ b < a := fun k => row_irrefl a (row_trans h k)
/-- strictly sorted lists with the same items are one -/
theorem strict_one {α : Type} {lt : α → α → Prop} (ir : ∀ a, ¬ lt a a) (tr : ∀ {a b c}, lt a b → lt b c → lt a c) : ∀ {a b : List α}, a.Pairwise lt → b.Pairwise lt → (∀ k, k ∈ a ↔ k ∈ b) → a = b
  | [], [], _, _, _ => rfl
  | [], y :: ys, _, _, h => absurd ((h y).mpr List.mem_cons_self) (by simp)
  | x :: xs, [], _, _, h => absurd ((h x).mp List.mem_cons_self) (by simp)
  | x :: xs, y :: ys, ha, hb, h => by
    obtain ⟨a1, a2⟩ := List.pairwise_cons.mp ha
    obtain ⟨b1, b2⟩ := List.pairwise_cons.mp hb
    have e : x = y := by
      rcases List.mem_cons.mp ((h x).mp List.mem_cons_self) with e | q
      · exact e
      · rcases List.mem_cons.mp ((h y).mpr List.mem_cons_self) with e | r
        · exact e.symm
        · exact absurd (tr (b1 x q) (a1 y r)) (ir y)
    subst e
    rw [strict_one ir tr a2 b2 fun k => ?_]
    constructor
    · intro hk
      rcases List.mem_cons.mp ((h k).mp (List.mem_cons_of_mem _ hk)) with e | q
      · subst e; exact absurd (a1 k hk) (ir k)
      · exact q
    · intro hk
      rcases List.mem_cons.mp ((h k).mpr (List.mem_cons_of_mem _ hk)) with e | q
      · subst e; exact absurd (b1 k hk) (ir k)
      · exact q
theorem rows_one {a b : List (List Int)} (ha : a.Pairwise (· < ·)) (hb : b.Pairwise (· < ·)) (h : ∀ k, k ∈ a ↔ k ∈ b) : a = b := strict_one row_irrefl row_trans ha hb h
def insR (x : List Int) : List (List Int) → List (List Int)
  | [] => [x]
  | y :: ys => if x < y then x :: y :: ys else if x = y then y :: ys else y :: insR x ys
/-- each once, ascending -/
def usortR : List (List Int) → List (List Int)
  | [] => []
  | x :: xs => insR x (usortR xs)
theorem insR_mem {x k : List Int} : ∀ {l : List (List Int)}, k ∈ insR x l ↔ k = x ∨ k ∈ l
  | [] => by simp [insR]
  | y :: ys => by
    unfold insR
    split
    · simp
    · split
      · rename_i e
        subst e
        simp
      · simp only [List.mem_cons, insR_mem (l := ys)]
        constructor
        · rintro (h | h | h)
          · exact .inr (.inl h)
          · exact .inl h
          · exact .inr (.inr h)
        · rintro (h | h | h)
          · exact .inr (.inl h)
          · exact .inl h
          · exact .inr (.inr h)
theorem usortR_mem {k : List Int} : ∀ {l : List (List Int)}, k ∈ usortR l ↔ k ∈ l
  | [] => by simp [usortR]
  | x :: xs => by
    show k ∈ insR x (usortR xs) ↔ _
    rw [insR_mem, usortR_mem (l := xs), List.mem_cons]
theorem insR_sorted {x : List Int} : ∀ {l : List (List Int)}, l.Pairwise (· < ·) → (insR x l).Pairwise (· < ·)
  | [], _ => by simp [insR]
  | y :: ys, h => by
    obtain ⟨h1, h2⟩ := List.pairwise_cons.mp h
    unfold insR
    split
    · rename_i c
      refine List.pairwise_cons.mpr ⟨fun z hz => ?_, h⟩
      rcases List.mem_cons.mp hz with rfl | hz
      · exact c
      · exact row_trans c (h1 z hz)
    · split
      · exact h
      · rename_i c1 c2
        refine List.pairwise_cons.mpr ⟨fun z hz => ?_, insR_sorted h2⟩
        rcases insR_mem.mp hz with rfl | hz
        · rcases row_tri z y with q | q | q
          · exact absurd q c1
          · exact absurd q c2
          · exact q
        · exact h1 z hz
theorem usortR_sorted : ∀ {l : List (List Int)}, (usortR l).Pairwise (· < ·)
  | [] => .nil
  | x :: xs => insR_sorted (usortR_sorted (l := xs))
theorem usortR_len : ∀ (l : List (List Int)), (usortR l).length ≤ l.length := by
  have ins : ∀ (x : List Int) (l : List (List Int)), (insR x l).length ≤ l.length + 1 := fun x l => by
    induction l with
    | nil => simp [insR]
    | cons y ys ih =>
      unfold insR
      split
      · simp
      · split
        · simp
        · simp only [List.length_cons]; omega
  intro l
  induction l with
  | nil => simp [usortR]
  | cons x xs ih =>
    have := ins x (usortR xs)
    show (insR x (usortR xs)).length ≤ xs.length + 1
    omega
/-! by their codes -/
theorem code_row {B : Int} : ∀ {a b : List Int}, a.length = b.length → TS.Bd B a → TS.Bd B b → TS.code B a ≤ TS.code B b → a = b ∨ a < b
  | [], [], _, _, _, _ => .inl rfl
  | x :: xs, y :: ys, hl, ha, hb, h => by
    have hl' : xs.length = ys.length := by simpa using hl
    rcases Int.lt_trichotomy x y with c | c | c
    · exact .inr (List.cons_lt_cons_iff.mpr (.inl c))
    · subst c
      have q : TS.code B xs ≤ TS.code B ys := by
        refine Int.not_lt.mp fun z => ?_
        have := (TS.code_same (B := B) (d := x) hl'.symm).mpr z
        omega
      rcases code_row hl' ha.tail hb.tail q with e | e
      · exact .inl (by rw [e])
      · exact .inr (List.cons_lt_cons_iff.mpr (.inr ⟨rfl, e⟩))
    · have := TS.code_lt hl'.symm hb.tail ha.tail c
      omega
/-! ## sorted(set(xs)) of tuples of ints -/
def rowOf : D → Option (List Int)
  | .tup xs => intsD xs
  | _ => none
def rowsOfD : List D → Option (List (List Int))
  | [] => some []
  | d :: ds => match rowOf d, rowsOfD ds with
    | some k, some ks => some (k :: ks)
    | _, _ => none
/-- a tuple of ints -/
def tupI (ns : List Int) : D := .tup (ns.map .int)
section
variable {X : Cx}
def cSortI (K : PySem.W.Frag) (x : V) (H1 : Hp) (Q : VK) : Prop := ∃ (l : Addr) (ks : List Int), x = V.ref l ∧ SqL K H1 l (ks.map V.int) ∧ ks.length < 64 ∧ ∀ (ms : List Int) (p : Addr), ms.Pairwise (· < ·) → (∀ k, k ∈ ms ↔ k ∈ ks) → H1 p = none → Q (.ref p) (upd H1 p (.lst (ms.map V.int)))
def cSortT (K : PySem.W.Frag) (x : V) (H1 : Hp) (Q : VK) : Prop := ∃ (l : Addr) (ks : List (Addr × List Int)) (d : Nat) (B : Int), x = V.ref l ∧ SqL K H1 l (ks.map fun p => V.ref p.1) ∧ (∀ p ∈ ks, SqT K H1 p.1 (p.2.map V.int)) ∧ ks.length < 64 ∧ 1 ≤ d ∧ (∀ p ∈ ks, p.2.length = d ∧ TS.Bd B p.2) ∧
  ∀ (L : List (Addr × List Int)) (a p : Addr) (o : HO), (∀ q ∈ L, q ∈ ks) → (∀ q ∈ ks, q.2 ∈ L.map (·.2)) → (L.map (·.2)).Pairwise (· < ·) → L.length < 64 → H1 a = none → upd H1 a o p = none → Q (.ref p) (upd (upd H1 a o) p (.lst (L.map fun q => V.ref q.1)))
def tSortSetT (K : PySem.W.Frag) (ta : TE) : TE := fun σ H Q => ta σ H fun x H1 => cSortI K x H1 Q ∨ cSortT K x H1 Q
theorem pe_sortsetT {a : Expr} {ta : TE} {p p2 q pos : Pos} (hc : X.calm = true) (hu : X.A.units + 65 < cLine) (hg : Gl X "sorted") (hm : X.mg "sorted" = none) (hg2 : Gl X "set") (hm2 : X.mg "set" = none) (ha : PE X a ta)
    (na : starEach [a] X.env = (false, eval a X.env) :: starEach [] X.env) : PE X (.Call (.Name "sorted" p) [.Call (.Name "set" p2) [a] [] q] [] pos) (tSortSetT X.K ta) := by
  refine ⟨fun pins s σ H Q I h => ?_⟩
  refine Call_ (ld_blt I hg hm PyProof.Rows.boot_sorted ?_)
  refine PyProof.Rows.callWith_builtin1 (PyProof.Rows.args_cons ?_ rfl) rfl rfl
  refine Call_ (ld_blt I hg2 hm2 PyProof.Rows.boot_set ?_)
  refine PyProof.Rows.callWith_type1 (PyProof.Rows.args_cons (thn (ha.run pins s σ H _ I h) fun v s1 ⟨x, H1, I1, r1, q1⟩ => PyProof.Rows.args_nil ?_) na) na rfl
  rcases q1 with q1 | q1
  · obtain ⟨l, ks, rfl, hq, h1, q1⟩ := q1
    cases r1
    obtain ⟨its, r, pl, hz⟩ := I1.list hq
    refine call_set_lstR ks (I1.ok.hd hc) pl.isList (by simpa using r.ints) (by unfold scanBound; omega) fun h8 tk c hS hcn hk => ?_
    refine PyProof.Rows.args_nil ?_
    have I2 : Inv X pins σ H1 { s1 with heap := h8, toks := tk } := I1.kept fun b o e => hk b o e
    have hS2 : SetR X.w ({ s1 with heap := h8, toks := tk } : Shared).heap s1.heap.objs.size (fun j => decide (j ∈ ks)) c := hS
    generalize ({ s1 with heap := h8, toks := tk } : Shared) = s2 at *
    refine sorted_set hS2 (I2.ok.hd hc) (by omega) fun z1 pn out cn ms k g o hp hgt hi hs hmm hl => ?_
    have hlen : (ms.map V.int).length ≤ sizeLine := by rw [List.length_map, hl, sizeLine_eq]; omega
    have hn : H1 pn = none := I2.hok.fresh hp
    have J : Inv X pins σ (upd H1 pn (.lst (ms.map V.int))) { s2 with heap := z1.heap, gens := z1.gens, drawn := z1.drawn, toks := z1.toks } :=
      I2.call (ch := []) (Un.laid k hp hn) (I2.hok.laid k hp ⟨hlen, out.toList, cn, vals_of_ints hi, hgt⟩) (by rw [g]; exact I2.bare) (fun _ z => nomatch z)
    have e : z1 = { s2 with heap := z1.heap, gens := z1.gens, drawn := z1.drawn, toks := z1.toks } := by
      cases z1
      cases s2
      cases o
      rfl
    rw [e]
    exact ⟨.ref pn, _, J, rfl, q1 ms pn hs (fun k => by rw [hmm k, decide_eq_true_eq]) hn⟩
  obtain ⟨l, ks, d, B, rfl, hq, hk, h1, hd, hB, q1⟩ := q1
  refine wpAny_mono (cr_setOfT hc (by omega) pins s1 σ H1 [V.ref l] [v] (fun y H2 => ∃ a L, y = V.ref a ∧ H2 = upd H1 a (SetTO X.prog X.w a L) ∧ H1 a = none ∧ (∀ p ∈ L, p ∈ ks) ∧ ∀ p ∈ ks, p.2 ∈ L.map (·.2)) I1 (.cons r1 .nil)
    ⟨l, ks, rfl, hq, hk, h1, fun a L hn hL1 hL2 => ⟨a, L, rfl, rfl, hn, hL1, hL2⟩⟩) (fun u s2 hh => ?_) (fun _ _ e => e)
  obtain ⟨y, H2, I2, r2, a, L, rfl, rfl, hn, hL1, hL2⟩ := hh
  refine PyProof.Rows.args_nil ?_
  refine cr_sortedT hc pins s2 σ _ [V.ref a] [u] _ I2 (.cons r2 .nil) ⟨a, L, d, B, rfl, upd_same, fun p hp => ?_, hd, fun p hp => hB p (hL1 p hp), fun L' p pm nd hz pw hp => ?_⟩
  · exact (Ext.upd_new (K := X.K) (m := []) hn).tup _ _ (hk p (hL1 p hp))
  · refine q1 L' a p _ (fun q hq => hL1 q (pm.mem_iff.mp hq)) (fun q hq => ?_) ?_ hz hn hp
    · exact (pm.map (·.2)).mem_iff.mpr (hL2 q hq)
    · rw [List.pairwise_map]
      have nd2 : L'.Pairwise (fun q r => q.2 ≠ r.2) := by
        have := nd
        unfold List.Nodup at this
        rwa [List.pairwise_map] at this
      have both := List.pairwise_and_iff.mpr ⟨pw, nd2⟩
      refine (List.Pairwise.imp_of_mem ?_ both)
      intro q r hq hr ⟨c1, c2⟩
      have b1 := hB q (hL1 q (pm.mem_iff.mp hq))
      have b2 := hB r (hL1 r (pm.mem_iff.mp hr))
      rcases code_row (by rw [b1.1, b2.1]) b1.2 b2.2 c1 with e | e
      · exact absurd e c2
      · exact e
end
def allLen (d : Nat) (ks : List (List Int)) : Bool := ks.all fun k => decide (k.length = d) && k.all fun n => decide (0 ≤ n)
def sortSetTD (d : D) : P D := fun hs => match listOf hs d with
  | some xs => match rowsOfD xs with
    | some (k :: ks) => if (decide ((k :: ks).length < 64) && decide (1 ≤ k.length) && allLen k.length (k :: ks)) = true then newL ((usortR (k :: ks)).map tupI) hs else none
    | _ => none
  | none => none
def sortSet2 (d : D) : P D := fun hs => match sortSetD d hs with
  | some r => some r
  | none => sortSetTD d hs
def sortSetT (fa : Ev → M D) : Ev → M D := fun e => M.bind (fa e) fun d => M.lift (sortSet2 d)
theorem row_rv {K : PySem.W.Frag} {mg : Str → Option Value} {m : List Addr} {H : Hp} {d : D} {k : List Int} {v : V} (h : rowOf d = some k) (r : RV K mg m H d v) : ∃ a, v = .ref a ∧ SqT K H a (k.map V.int) := by
  cases d <;> simp only [rowOf] at h <;> try cases h
  obtain ⟨a, vs, rfl, h1, h2⟩ := rv_tup r
  obtain rfl := intsD_rv h h2
  exact ⟨a, rfl, h1⟩
theorem rows_rv {K : PySem.W.Frag} {mg : Str → Option Value} {m : List Addr} {H : Hp} : ∀ {ds : List D} {ks : List (List Int)} {vs : List V}, rowsOfD ds = some ks → RVs K mg m H ds vs → ∃ ps : List (Addr × List Int), vs = (ps.map fun p => V.ref p.1) ∧ ps.map (·.2) = ks ∧ ∀ p ∈ ps, SqT K H p.1 (p.2.map V.int)
  | [], ks, vs, h, r => by
    simp only [rowsOfD] at h; cases h
    rw [RVs.nil_iff] at r; subst r
    exact ⟨[], rfl, rfl, fun p hp => by cases hp⟩
  | d :: ds, ks, vs, h, r => by
    simp only [rowsOfD] at h
    obtain ⟨v, w, rfl, r1, r2⟩ := RVs.cons_iff.mp r
    cases e1 : rowOf d with
    | none => rw [e1] at h; cases h
    | some k =>
      cases e2 : rowsOfD ds with
      | none => rw [e1, e2] at h; cases h
      | some q =>
        rw [e1, e2] at h
        cases h
        obtain ⟨a, rfl, h1⟩ := row_rv e1 r1
        obtain ⟨ps, rfl, h2, h3⟩ := rows_rv e2 r2
        refine ⟨(a, k) :: ps, rfl, by rw [List.map_cons, h2], fun p hp => ?_⟩
        rcases List.mem_cons.mp hp with rfl | hp
        · exact h1
        · exact h3 p hp
theorem rvs_rows {K : PySem.W.Frag} {mg : Str → Option Value} {m : List Addr} {H : Hp} : ∀ {L : List (Addr × List Int)}, (∀ p ∈ L, SqT K H p.1 (p.2.map V.int)) → RVs K mg m H ((L.map (·.2)).map tupI) (L.map fun p => V.ref p.1)
  | [], _ => RVs.nil_iff.mpr rfl
  | p :: L, h => RVs.cons (by
      unfold tupI
      simp only [RV]
      exact ⟨p.1, p.2.map V.int, rfl, h p List.mem_cons_self, rvs_ints⟩) (rvs_rows fun p hp => h p (List.mem_cons_of_mem _ hp))
def topR : List (List Int) → Int
  | [] => 0
  | k :: ks => max (topI k) (topR ks)
theorem le_topI : ∀ {ns : List Int} {n : Int}, n ∈ ns → n ≤ topI ns
  | [a], n, h => by simp at h; subst h; exact Int.le_refl _
  | a :: b :: r, n, h => by
    show n ≤ if topI (b :: r) > a then topI (b :: r) else a
    rcases List.mem_cons.mp h with rfl | h
    · split <;> omega
    · have := le_topI h
      split <;> omega
theorem le_topR : ∀ {ks : List (List Int)} {k : List Int} {n : Int}, k ∈ ks → n ∈ k → n ≤ topR ks
  | a :: r, k, n, h, hn => by
    unfold topR
    rcases List.mem_cons.mp h with rfl | h
    · have := le_topI hn; omega
    · have := le_topR h hn; omega
section
variable {X : Cx} {W : WX}
theorem de_sortsetT {a : Expr} {fa : Ev → M D} {p p2 q pos : Pos} (hc : X.calm = true) (hu : X.A.units + 65 < cLine) (hg : Gl X "sorted") (hm : X.mg "sorted" = none) (hg2 : Gl X "set") (hm2 : X.mg "set" = none) (ha : DE X W a fa)
    (na : starEach [a] X.env = (false, eval a X.env) :: starEach [] X.env) : DE X W (.Call (.Name "sorted" p) [.Call (.Name "set" p2) [a] [] q] [] pos) (sortSetT fa) := by
  refine (pe_sortsetT hc hu hg hm hg2 hm2 ha na).imp fun σ H Q ⟨m, ev, hs, rs, hr, q⟩ => ⟨m, ev, hs, rs, hr, q.bind.mono fun d m1 hs1 H1 e1 hr1 q1 v rv => ?_⟩
  obtain ⟨y, hs2, e, k⟩ := q1.lift
  unfold sortSet2 at e
  split at e
  · rename_i r e0
    cases e
    refine .inl ?_
    unfold sortSetD at e0
    split at e0
    · rename_i xs el
      split at e0
      · rename_i ks ek
        split at e0
        · rename_i hz
          cases e0
          obtain ⟨l, ws, rfl, h1, h2⟩ := list_of hr1 rv el
          obtain rfl := intsD_rv ek h2
          refine ⟨l, ks, rfl, h1, hz, fun ms p hs hm hp => ?_⟩
          have e : ms = usort ks := strict_unique hs usort_sorted fun k => by rw [hm k, usort_mem]
          rw [e]
          exact Bk.lst (Q := Q) (fun m' H' v e hr r => k m' H' e hr v r) hr1 rvs_ints hp
        · cases e0
      · cases e0
    · cases e0
  · refine .inr ?_
    unfold sortSetTD at e
    split at e
    · rename_i xs el
      split at e
      · rename_i k0 ks ek
        split at e
        · rename_i hz
          cases e
          simp only [Bool.and_eq_true, decide_eq_true_eq] at hz
          obtain ⟨⟨hz, hd⟩, hall⟩ := hz
          obtain ⟨l, ws, rfl, h1, h2⟩ := list_of hr1 rv el
          obtain ⟨ps, rfl, h3, h4⟩ := rows_rv ek h2
          have hlen : ps.length = (k0 :: ks).length := by rw [← h3, List.length_map]
          refine ⟨l, ps, k0.length, topR (k0 :: ks) + 1, rfl, h1, h4, by omega, hd, fun p hp => ?_, fun L a p o hL1 hL2 hL3 hz2 ha hp => ?_⟩
          · have hm : p.2 ∈ k0 :: ks := by rw [← h3]; exact List.mem_map_of_mem hp
            unfold allLen at hall
            have := List.all_eq_true.mp hall _ hm
            simp only [Bool.and_eq_true, decide_eq_true_eq, List.all_eq_true] at this
            exact ⟨this.1, fun n hn => ⟨this.2 n hn, by have := le_topR hm hn; omega⟩⟩
          · have e : L.map (·.2) = usortR (k0 :: ks) := rows_one hL3 usortR_sorted fun k => by
              rw [usortR_mem, ← h3]
              constructor
              · intro hk
                obtain ⟨q, hq, rfl⟩ := List.mem_map.mp hk
                exact List.mem_map_of_mem (hL1 q hq)
              · intro hk
                obtain ⟨q, hq, rfl⟩ := List.mem_map.mp hk
                exact hL2 q hq
            have x1 := Ext.upd_new (K := X.K) (m := m1) (o := o) ha
            have hr2 := hr1.upd_new (o := o) ha
            refine Bk.lst (Q := Q) (fun m' H' v e hr r => k m' H' (x1.trans e) hr v r) hr2 ?_ hp
            rw [← e]
            exact rvs_rows fun q hq => x1.tup _ _ (h4 q (hL1 q hq))
        · cases e
      · cases e
    · cases e
end
end DL
set_option Elab.async false
set_option linter.all false
set_option maxRecDepth 100000
set_option maxHeartbeats 4000000
namespace DL
open PySem PySem.Spec PyProof.Rows L2

/-! ## min, max of data: over lists, tuples, dicts -/
/-- what is walked item by item, nothing of it being written -/
def Wks (X : Cx) (H : Hp) (v : V) (vs : List V) : Prop := ∀ (pins : List (Addr × Obj)) (s : Shared) (σ : L2.St) (u : Value), Inv X pins σ H s → RelV v u → ∃ us : List Value, Vals vs us ∧
  ∀ (A : Around) (E : Value → Shared → Prop) (Q : Value → Shared → Prop), A.handled = none →
    (∀ (I : Addr) (fp wr : List Addr) (St : Nat → Shared → Prop) (s₂ : Shared), WalksS X.prog X.w A I fp wr (fun a b => b = a) us.length (fun i v => us[i]? = some v) St → St 0 s₂ → (∀ b ∈ fp, b < s₂.heap.objs.size) → (∀ b o, s.heap.get? b = some o → b ∉ wr) →
      (∀ b o, s.heap.get? b = some o → s₂.heap.get? b = some o) → (∀ s', Moved wr (fun a b => b = a) s₂ s' → ∃ h' tk, s' = { s with heap := h', toks := tk } ∧ ∀ b o, s.heap.get? b = some o → h'.get? b = some o) → Q (.ref I) s₂) →
    wpAny (model X.prog X.w) A (pyIter u) Q E s
section
variable {X : Cx} {H : Hp}
theorem wks_lst {a : Addr} {xs : List V} (h : SqL X.K H a xs) : Wks X H (.ref a) xs := by
  intro pins s σ u I r
  cases r
  obtain ⟨its, rv, pl, hz⟩ := I.list h
  refine ⟨its, rv, fun A E Q hh k => PySem.W.iter_listW hh pl.isList fun s₂ e W st hfp hw hk => k _ _ _ (fun i s' => s'.heap.IsListIter s.heap.objs.size a i ∧ s'.heap.IsList a its.toArray) _ ?_ st hfp hw hk fun s' m => PySem.W.moved_old e rfl m⟩
  simpa using W
theorem wks_tup {a : Addr} {xs : List V} (h : SqT X.K H a xs) : Wks X H (.ref a) xs := by
  intro pins s σ u I r
  cases r
  obtain ⟨its, rv, pl, hz⟩ := I.tuple h
  refine ⟨its, rv, fun A E Q hh k => PySem.W.iter_tupleW hh pl fun s₂ e W st hfp hw hk => k _ _ _ (fun i s' => s'.heap.IsTupleIter s.heap.objs.size a i ∧ s'.heap.IsTuple a its.toArray) _ ?_ st hfp hw hk fun s' m => PySem.W.moved_old e rfl m⟩
  simpa using W
theorem wks_raw {s : Shared} {d : Addr} {es : Array DictEntry} {ep : Nat} {us : List Value} {A : Around} {E : Value → Shared → Prop} {Q : Value → Shared → Prop} (lo : (d == sysModules) = false) (hm : s.heap.DictRaw d es ep) (hl : es.size = us.length) (hat : ∀ i (hi : i < es.size), us[i]? = some es[i].key) (hh : A.handled = none)
    (k : ∀ (I : Addr) (fp wr : List Addr) (St : Nat → Shared → Prop) (s₂ : Shared), WalksS X.prog X.w A I fp wr (fun a b => b = a) us.length (fun i v => us[i]? = some v) St → St 0 s₂ → (∀ b ∈ fp, b < s₂.heap.objs.size) → (∀ b o, s.heap.get? b = some o → b ∉ wr) →
      (∀ b o, s.heap.get? b = some o → s₂.heap.get? b = some o) → (∀ s', Moved wr (fun a b => b = a) s₂ s' → ∃ h' tk, s' = { s with heap := h', toks := tk } ∧ ∀ b o, s.heap.get? b = some o → h'.get? b = some o) → Q (.ref I) s₂) :
    wpAny (model X.prog X.w) A (pyIter (.ref d)) Q E s := by
  have hlt : d < s.heap.objs.size := let ⟨_, ho, _⟩ := hm; Heap.lt_size ho
  refine wpAny_pyIter_dict_raw lo hm ?_
  have W := (Walks.mono_item (Walks.rawKeys (prog := X.prog) (w := X.w) hh s.heap.objs.size d (Nat.ne_of_lt hlt) es ep) (P' := fun i v => us[i]? = some v) fun i v hi ⟨hi', e⟩ => by rw [hat i hi', e]).toS
  rw [hl] at W
  refine k _ _ _ _ _ W ⟨⟨_, Heap.get?_push_size _ rfl, rfl, (by simp [hl])⟩, hm.at fun _ e => Heap.get?_push_of_some _ e⟩ (fun b hb => ?_) (fun b o e hb => ?_) (fun b o e => Heap.get?_push_of_some _ e) fun s' m => PySem.W.moved_old rfl rfl m
  · show b < (s.heap.push _).objs.size
    rw [Heap.size_push]
    rcases List.mem_cons.mp hb with rfl | hb
    · exact Nat.lt_succ_self _
    · rcases List.mem_cons.mp hb with rfl | hb
      · exact Nat.lt_succ_of_lt hlt
      · cases hb
  · exact absurd (Heap.lt_size e) ((List.mem_singleton.mp hb) ▸ Nat.lt_irrefl _)
theorem wks_dn {a : Addr} {xs : List NE} (h : DN X.K H a xs) : Wks X H (.ref a) (xs.map fun x => .ref x.2.1) := by
  intro pins s σ u I r
  cases r
  obtain ⟨es, ep, hraw, hsz, hat⟩ := (dn_of I h).raw
  refine ⟨xs.map fun x => .ref x.2.1, ?_, fun A E Q hh k => wks_raw h.2.1 hraw (by rw [hsz, List.length_map]) (fun i hi => ?_) hh k⟩
  · exact vals_at (by simp) fun j x u e1 e2 => by
      rw [List.getElem?_map] at e1 e2
      cases e : xs[j]? with
      | none => rw [e] at e1; cases e1
      | some y => rw [e] at e1 e2; cases e1; cases e2; exact rfl
  · obtain ⟨y, ey, ek, _⟩ := hat i hi
    rw [List.getElem?_map, ey, ek]; rfl
/-- the place of the least, the greatest -/
def bestAt (lt : PyData → PyData → Bool) (ps : List PyData) : Nat := argBest (fun i j => lt (ps.getD i .none) (ps.getD j .none)) (ps.length - 1)
def rBest (X : Cx) (lt : PyData → PyData → Bool) : List V → Hp → VK → Prop := fun xs H Q => ∃ (v : V) (vs : List V) (ps : List PyData), xs = [v] ∧ Wks X H v vs ∧ vs.length = ps.length ∧ (∀ b ∈ vs.zip ps, Dp X.K H b.1 b.2) ∧ 0 < ps.length ∧ PySem.W.AlikeAll ps ∧ (∀ p ∈ ps, p.depth ≤ 50) ∧
  ∀ x, vs[bestAt lt ps]? = some x → Q x H
theorem zip_at {α β : Type} {as : List α} {bs : List β} (hl : as.length = bs.length) {i : Nat} {a : α} (h : as[i]? = some a) : ∃ b, bs[i]? = some b ∧ (a, b) ∈ as.zip bs := by
  have hi := (List.getElem?_eq_some_iff.mp h).1
  have hi' : i < bs.length := by omega
  refine ⟨bs[i], by simp, ?_⟩
  refine List.mem_iff_getElem?.mpr ⟨i, ?_⟩
  rw [List.getElem?_zip_eq_some]
  exact ⟨h, by simp⟩
theorem vals_get : ∀ {vs : List V} {us : List Value} {i : Nat} {u : Value}, Vals vs us → us[i]? = some u → ∃ v, vs[i]? = some v ∧ RelV v u
  | _, _, _, _, .nil, h => by simp at h
  | _, _, 0, _, .cons r _, h => by cases h; exact ⟨_, rfl, r⟩
  | _, _, i + 1, _, .cons _ t, h => by
    obtain ⟨v, e, r⟩ := vals_get (i := i) t (by simpa using h)
    exact ⟨v, by simpa using e, r⟩
theorem best_cmp {pins : List (Addr × Obj)} {σ : L2.St} {s : Shared} {A : Around} {op : CmpOp} {lt : PyData → PyData → Bool} (I : Inv X pins σ H s) {vs : List V} {us : List Value} {ps : List PyData} (rv : Vals vs us) (hl : vs.length = ps.length) (hd : ∀ b ∈ vs.zip ps, Dp X.K H b.1 b.2) (ha : PySem.W.AlikeAll ps) (h50 : ∀ p ∈ ps, p.depth ≤ 50) (hu : A.units + 51 < cLine)
    (rule : ∀ {s : Shared} {a b : Value} {da db : PyData} {as bs : List Addr} {Q E : Value → Shared → Prop}, Reads s.heap a da as → Reads s.heap b db bs → PySem.W.alike da db = true → da ≠ .none → A.units + min da.depth db.depth < cLine → Q (.bool (lt da db)) s → wpAny (model X.prog X.w) A (richCompare op a b) Q E s) :
    PySem.CmpIn X.prog X.w A op s.heap (fun i v => us[i]? = some v) (fun i j => lt (ps.getD i .none) (ps.getD j .none)) := by
  intro i j vi vj s1 Q E hk hi hj hq
  obtain ⟨xi, ei, ri⟩ := vals_get rv hi
  obtain ⟨xj, ej, rj⟩ := vals_get rv hj
  obtain ⟨pi, fi, mi⟩ := zip_at hl ei
  obtain ⟨pj, fj, mj⟩ := zip_at hl ej
  obtain ⟨as, r1⟩ := Dp.reads I pi xi vi (hd _ mi) ri
  obtain ⟨bs, r2⟩ := Dp.reads I pj xj vj (hd _ mj) rj
  have m1 : pi ∈ ps := List.mem_of_getElem? fi
  have m2 : pj ∈ ps := List.mem_of_getElem? fj
  have g1 : ps.getD i .none = pi := by rw [List.getD_eq_getElem?_getD, fi]; rfl
  have g2 : ps.getD j .none = pj := by rw [List.getD_eq_getElem?_getD, fj]; rfl
  simp only [g1, g2] at hq
  have := h50 pi m1
  have hmin : min pi.depth pj.depth ≤ pi.depth := Nat.min_le_left _ _
  exact rule (PyProof.Rows.Reads.keeps hk r1) (PyProof.Rows.Reads.keeps hk r2) (ha.1 pi m1 pj m2) (ha.2 pi m1) (by omega) hq
theorem cr_least (hc : X.calm = true) (hu : X.A.units + 65 < cLine) : CallR X (.builtin "min") (rBest X PySem.W.dataLt) := by
  intro pins s σ H xs us0 Q I r q
  obtain ⟨v, vs, ps, rfl, wk, hl, hd, h0, ha, h50, q⟩ := q
  obtain ⟨u, rfl, rx⟩ := vals1 r
  obtain ⟨us, rv, go⟩ := wk pins s σ u I rx
  have hn : us.length = ps.length := by rw [← rv.length, hl]
  refine PySem.call_min_walkH (go X.A.in1 _ _ (I.ok.hd hc) fun It fp wr St s₂ W st hfp hw hk mv => ?_)
  refine ⟨_, _, _, _, _, _, _, s.heap, _, rfl, W, st, hfp, by omega, hw, hk, best_cmp (A := X.A.in1) I rv hl hd ha h50 (by show X.A.units + 1 + 51 < _; omega) (fun r1 r2 h1 h2 h3 h4 => PySem.W.lt_data r1 r2 h1 h2 h3 h4), fun y s' hP m => ?_⟩
  obtain ⟨h', tk, rfl, hk'⟩ := mv s' m
  obtain ⟨x, ex, rx'⟩ := vals_get rv hP
  refine ⟨x, H, I.kept hk', rx', q x ?_⟩
  unfold bestAt
  rw [← hn]
  exact ex
theorem cr_most (hc : X.calm = true) (hu : X.A.units + 65 < cLine) : CallR X (.builtin "max") (rBest X fun a b => PySem.W.dataLt b a) := by
  intro pins s σ H xs us0 Q I r q
  obtain ⟨v, vs, ps, rfl, wk, hl, hd, h0, ha, h50, q⟩ := q
  obtain ⟨u, rfl, rx⟩ := vals1 r
  obtain ⟨us, rv, go⟩ := wk pins s σ u I rx
  have hn : us.length = ps.length := by rw [← rv.length, hl]
  refine PySem.call_max_walkH (go X.A.in1 _ _ (I.ok.hd hc) fun It fp wr St s₂ W st hfp hw hk mv => ?_)
  refine ⟨_, _, _, _, _, _, _, s.heap, _, rfl, W, st, hfp, by omega, hw, hk, best_cmp (A := X.A.in1) I rv hl hd ha h50 (by show X.A.units + 1 + 51 < _; omega) (fun r1 r2 h1 h2 h3 h4 => PySem.W.gt_data r1 r2 h1 h2 h3 h4), fun y s' hP m => ?_⟩
  obtain ⟨h', tk, rfl, hk'⟩ := mv s' m
  obtain ⟨x, ex, rx'⟩ := vals_get rv hP
  refine ⟨x, H, I.kept hk', rx', q x ?_⟩
  unfold bestAt
  rw [← hn]
  exact ex
end
/-! .. in the little machine: where the plain ones know no answer -/
def okBest (ps : List PyData) : Bool := !ps.isEmpty && ps.all (fun d => ps.all fun d' => PySem.W.alike d d') && ps.all (fun d => !pdNone d) && ps.all fun d => decide (d.depth ≤ 50)
theorem okBest_iff {ps : List PyData} (h : okBest ps = true) : 0 < ps.length ∧ PySem.W.AlikeAll ps ∧ ∀ d ∈ ps, d.depth ≤ 50 := by
  unfold okBest at h
  simp only [Bool.and_eq_true, List.all_eq_true, decide_eq_true_eq, Bool.not_eq_true'] at h
  obtain ⟨⟨⟨h1, h2⟩, h3⟩, h4⟩ := h
  refine ⟨by cases ps <;> simp at h1 ⊢, ⟨fun x hx y hy => h2 x hx y hy, fun x hx e => ?_⟩, h4⟩
  have := h3 x hx
  rw [e] at this
  simp [pdNone] at this
def itemsW (hs : Hs) : D → Option (List D)
  | .tup xs => some xs
  | .loc n => match hs[n]? with
    | some (.lst xs) => some xs
    | some (.dcn kvs) => some (kvs.map (·.1))
    | _ => none
  | .frl xs => some xs
  | _ => none
def bestL (lt : PyData → PyData → Bool) (hs : Hs) (xs : List D) : Option D := match D.pys (derefs hs 40) xs with
  | some ps => if okBest ps = true then xs[bestAt lt ps]? else none
  | none => none
def bestD (lt : PyData → PyData → Bool) (ds : List D) : P D := fun hs => match ds with
  | [d] => match itemsW hs d with
    | some xs => (bestL lt hs xs).map fun y => (y, hs)
    | none => none
  | _ => none
def min2 (ds : List D) : P D := fun hs => match minD ds hs with
  | some r => some r
  | none => bestD PySem.W.dataLt ds hs
def max2 (ds : List D) : P D := fun hs => match maxD ds hs with
  | some r => some r
  | none => bestD (fun a b => PySem.W.dataLt b a) ds hs
section
variable {X : Cx}
theorem items_wks {m : List Addr} {H : Hp} {hs : Hs} {d : D} {xs : List D} {v : V} (hr : HR X.K X.mg m hs H) (r : RV X.K X.mg m H d v) (h : itemsW hs d = some xs) : ∃ vs, Wks X H v vs ∧ RVs X.K X.mg m H xs vs := by
  unfold itemsW at h
  split at h
  · cases h
    obtain ⟨a, vs, rfl, h1, h2⟩ := rv_tup r
    exact ⟨vs, wks_tup h1, h2⟩
  · obtain ⟨a, rfl, hm⟩ := rv_loc r
    obtain ⟨o, ho, ro⟩ := hr.at' hm
    rw [ho] at h
    cases o with
    | lst ys => cases h; obtain ⟨vs, h1, h2⟩ := ro; exact ⟨vs, wks_lst (SqL.of h1), h2⟩
    | dct kvs => cases h
    | dcn kvs =>
      cases h
      obtain ⟨ys, h1, h2, h3, h4⟩ := ro
      exact ⟨_, wks_dn ⟨h1, h2, h3, h4.good⟩, rvs_keysN h4⟩
    | ins _ _ => cases h
    | set _ => cases h
  · cases h
    obtain ⟨a, vs, rfl, h1, h2⟩ := rv_frl r
    exact ⟨vs, wks_lst h1.sql, h2⟩
  · cases h
theorem best_run {lt : PyData → PyData → Bool} {m : List Addr} {H : Hp} {hs hs' : Hs} {ds : List D} {d : D} {vs : List V} {Q : VK} (hr : HR X.K X.mg m hs H) (rs : RVs X.K X.mg m H ds vs) (h : bestD lt ds hs = some (d, hs')) (k : Bk X.K X.mg m H d hs' Q) : rBest X lt vs H Q := by
  unfold bestD at h
  split at h
  · split at h
    · rename_i a _ xs e1
      obtain ⟨y, e2, e3⟩ := Option.map_eq_some_iff.mp h
      cases e3
      obtain ⟨v, rfl, r1⟩ := rvs1 rs
      obtain ⟨ws, wk, rw⟩ := items_wks hr r1 e1
      unfold bestL at e2
      split at e2
      · rename_i ps ep
        split at e2
        · rename_i ok
          obtain ⟨h0, ha, h50⟩ := okBest_iff ok
          obtain ⟨l1, l2, hd⟩ := pys_dp hr ep rw
          refine ⟨v, ws, ps, rfl, wk, l1, hd, h0, ha, h50, fun x ex => ?_⟩
          obtain ⟨x', ex', rx⟩ := rw.get e2
          rw [ex] at ex'
          cases ex'
          exact k.here hr rx
        · cases e2
      · cases e2
    · cases h
  · cases h
theorem min2_ok (hc : X.calm = true) (hu : X.A.units + 65 < cLine) : CallR X (.builtin "min") (rPn X.K X.mg min2) := by
  intro pins s σ H vs us Q I r h
  obtain ⟨m, hs, ds, d, hs', hr, rs, hf, k⟩ := h
  unfold min2 at hf
  split at hf
  · rename_i e
    cases hf
    exact minD_ok hc pins s σ H _ us Q I r ⟨m, hs, ds, d, hs', hr, rs, e, k⟩
  · exact cr_least hc hu pins s σ H _ us Q I r (best_run hr rs hf k)
theorem max2_ok (hc : X.calm = true) (hu : X.A.units + 65 < cLine) : CallR X (.builtin "max") (rPn X.K X.mg max2) := by
  intro pins s σ H vs us Q I r h
  obtain ⟨m, hs, ds, d, hs', hr, rs, hf, k⟩ := h
  unfold max2 at hf
  split at hf
  · rename_i e
    cases hf
    exact maxD_ok hc pins s σ H _ us Q I r ⟨m, hs, ds, d, hs', hr, rs, e, k⟩
  · exact cr_most hc hu pins s σ H _ us Q I r (best_run hr rs hf k)
end
end DL
set_option Elab.async false
set_option linter.all false
set_option maxRecDepth 100000
set_option maxHeartbeats 4000000
namespace DL
open PySem PySem.Spec PyProof.Rows L2

/-! ## the little machine -/
inductive GI where
  | val (d : D) | fn (n : Nat) (f : List D → M D) | bi | err (fld : Option Str) | base | cls (ci : CI)
/-- what is told of a class, a method's defs by class, what may be stored -/
def ciG (G : Str → Option GI) (y : Str) : CI := match G y with
  | some (.cls ci) => ci
  | _ => {}
def tabG (G : Str → Option GI) (m : Str) : Str → Option (Nat × (List D → M D)) := fun c => (ciG G c).ms.lookup m
def okG (G : Str → Option GI) (f : Str) : Str → Bool := fun c => (ciG G c).fl.contains f
structure SC where
  N : List Str
  sc : Scope
  fnc : Str → Bool
  G : Str → Option GI
  /-- within an except suite: the error that is handled -/
  hot : Option Tk := none
  /-- within a comprehension's block -/
  inb : Bool := false
def SC.cool (C : SC) : Bool := C.hot.isNone
def findIx : List Str → Str → Option Nat
  | [], _ => none
  | y :: ys, x => if y = x then some 0 else (findIx ys x).map (· + 1)
theorem findIx_get : ∀ {N : List Str} {x : Str} {i : Nat}, findIx N x = some i → N[i]? = some x
  | [], _, _, h => by cases h
  | y :: ys, x, i, h => by
    unfold findIx at h
    split at h
    · rename_i e; cases h; subst e; rfl
    · obtain ⟨j, e, rfl⟩ := Option.map_eq_some_iff.mp h
      show ys[j]? = some x
      exact findIx_get e
def constM (c : Const) : Ev → M D := fun _ => match c with
  | .none => M.pure .non
  | .bool b => M.pure (.bl b)
  | .int i => M.pure (.int i)
  | .str x => M.pure (.str x)
  | _ => M.stuck
def plainName (x : Str) : Bool := !(x == ("__debug__" : Str)) && !(x == ("__classdict__" : Str)) && !(x == ("__name__" : Str))
def tyNames : List (Str × String) := [("int", "int"), ("bool", "bool"), ("str", "str"), ("list", "list"), ("tuple", "tuple"), ("dict", "dict"), ("ValueError", "ValueError"), ("Exception", "Exception")]
def nameM (C : SC) (x : Str) : Ev → M D := if plainName x = true then
    (match C.sc.names.lookup x with
    | some .local | some .cell | some .free => (match findIx C.N x with
      | some i => varD i
      | none => fun _ => M.stuck)
    | some .globalImplicit => (match C.G x with
      | some (.val d) => fun _ => M.pure d
      | some .bi => (match tyNames.lookup x with
        | some n => fun _ => M.pure (.ty n)
        | none => fun _ => M.stuck)
      | some (.err _) => fun _ => M.pure (.glo x)
      | some .base => fun _ => M.pure (.glo x)
      | some (.cls _) => fun _ => M.pure (.glo x)
      | _ => fun _ => M.stuck)
    | _ => fun _ => M.stuck)
  else fun _ => M.stuck
def isGlobal (C : SC) (x : Str) : Bool := plainName x && (match C.sc.names.lookup x with
  | some .globalImplicit => true
  | _ => false)
def isBi (C : SC) (x : Str) : Bool := isGlobal C x && (match C.G x with
  | some .bi => true
  | _ => false)
noncomputable def builtins : List (Str × (List D → P D)) := [("len", lenD), ("abs", absD), ("max", max2), ("min", min2), ("all", allD), ("any", anyD), ("isinstance", isiD), ("int", intD), ("tuple", tupleD), ("list", listD), ("repr", reprD), ("str", strD), ("sorted", sortD)]
/-- built-ins that may be called while an error is handled -/
def hotBuiltins : List (Str × (List D → P D)) := [("len", lenD), ("abs", absD), ("isinstance", isiD), ("int", intD), ("tuple", tupleD), ("list", listD)]
noncomputable def callD (C : SC) (x : Str) (k : Nat) (fs : Ev → M (List D)) : Ev → M D := if isGlobal C x = true then
    (match C.G x with
    | some (.fn n f) => if C.cool = true then callF n f fs else fun _ => M.stuck
    | some (.cls ci) => if C.cool = true then (match ci.ini with
      | some (n, f) => makeM x n f fs
      | none => fun _ => M.stuck) else fun _ => M.stuck
    | some .bi => if 0 < k then (match (if C.cool = true then builtins else hotBuiltins).lookup x with
      | some f => callM f fs
      | none => fun _ => M.stuck) else fun _ => M.stuck
    | _ => fun _ => M.stuck)
  else fun _ => M.stuck
noncomputable def methods : List ((Str × Nat) × String × (D → List D → P D)) := [(("append", 1), "list", appendD), (("extend", 1), "list", extendD), (("pop", 0), "list", popD), (("pop", 1), "list", popAtD), (("index", 1), "list", indexD), (("join", 1), "str", joinD), (("split", 1), "str", splitD), (("setdefault", 2), "dict", setdefD), (("pop", 2), "dict", popKD), (("update", 1), "dict", updD)]
noncomputable def methD (C : SC) (m : Str) (k : Nat) (fo : Ev → M D) (fs : Ev → M (List D)) : Ev → M D := match methods.lookup (m, k) with
  | some (T, f) => methM T f fo fs
  | none => if C.cool = true then ownM (tabG C.G m) m fo fs else fun _ => M.stuck
/-- isinstance for a class of the package -/
def ownIsi (C : SC) (x : Str) (args : List Expr) : Bool := C.cool && x == ("isinstance" : Str) && isBi C "isinstance" && (match args with
  | [a, .Name y _] => notStar a && isGlobal C y && (match C.G y with
    | some (.cls _) => true
    | _ => false)
  | _ => false)
def isiY (C : SC) (args : List Expr) (fa : Ev → M D) : Ev → M D := match args with
  | [_, .Name y _] => isiO (ciG C.G y) fa
  | _ => fun _ => M.stuck
/-- a name that may be stored -/
def slotOf (C : SC) (x : Str) : Option Nat := match C.sc.names.lookup x with
  | some .local => findIx C.N x
  | some .cell => if C.fnc x = true then findIx C.N x else none
  | _ => none
def slotsOf (C : SC) : List Expr → Option (List Nat)
  | [] => some []
  | .Name x _ :: es => match slotOf C x, slotsOf C es with
    | some i, some is => some (i :: is)
    | _, _ => none
  | _ :: _ => none
def tgOf (C : SC) : Expr → Option Tg
  | .Name x _ => (slotOf C x).map .one
  | .Tuple es _ _ => if (plainArgs es && C.cool) = true then (slotsOf C es).map .many else none
  | _ => none
def ownOf (N : List Str) : List (Str × NameKind) → List (Str × Nat)
  | [] => []
  | (x, .local) :: r => (match findIx N x with
    | some i => (x, i) :: ownOf N r
    | none => ownOf N r)
  | (x, .cell) :: r => (match findIx N x with
    | some i => (x, i) :: ownOf N r
    | none => ownOf N r)
  | _ :: r => ownOf N r
def SC.blk (C : SC) (scope : Scope) : SC := { C with sc := relS scope C.sc, fnc := fun x => scope.names.lookup x == some .cell, inb := true }
def isTup : Expr → Bool
  | .Tuple .. => true
  | _ => false
noncomputable def rngM (k : Nat) (fs : Ev → M (List D)) : Ev → M Src := fun e => M.bind (fs e) fun xs => if xs.length = k then rngSrc xs else M.stuck
def seqM (f : Ev → M D) : Ev → M Src := fun e => M.bind (f e) seqSrc
def noFold : Expr → Bool
  | .Set .. => false
  | _ => true
/-- what is walked: a range, a list, a tuple; pairs of enumerate and zip -/
noncomputable def srcOf (x : Str) (k : Nat) (tup : Bool) (f : Ev → M D) (fs : Ev → M (List D)) : Ev → M Src :=
  if x = "range" then (if k = 1 ∨ k = 2 then rngM k fs else if k = 3 then fun e => M.bind (fs e) rngSrc3 else fun _ => M.stuck)
  else if x = "enumerate" then (if k = 1 ∧ tup = true then fun e => M.bind (fs e) enumSrc else fun _ => M.stuck)
  else if x = "zip" then (if k = 2 ∧ tup = true then fun e => M.bind (fs e) zipSrc else fun _ => M.stuck)
  else seqM f
noncomputable def srcM (C : SC) (tg iter : Expr) (f : Ev → M D) (fs : Ev → M (List D)) : Ev → M Src := match iter with
  | .Call (.Name x _) args [] _ => if (isBi C x && plainArgs args) = true then srcOf x args.length (isTup tg) f fs else seqM f
  | _ => seqM f
/-- sorted(set(a)) -/
def isSortSet (C : SC) (x : Str) (args : List Expr) : Bool := C.cool && x == ("sorted" : Str) && isBi C "sorted" && (match args with
  | [.Call (.Name y _) [a] [] _] => y == ("set" : Str) && isBi C "set" && notStar a
  | _ => false)
/-- list(range(a)) -/
def isLstRg (C : SC) (x : Str) (args : List Expr) : Bool := C.cool && x == ("list" : Str) && isBi C "list" && (match args with
  | [.Call (.Name y _) [a] [] _] => y == ("range" : Str) && isBi C "range" && notStar a
  | _ => false)
/-- an error's class against one that is named -/
def hitE (C : SC) (c : Str) (y : Str) : Option Bool := match C.G y with
  | some (.err _) => some (decide (c = y))
  | some .base => some true
  | _ => none
def hitD (C : SC) (c : Str) : D → Option Bool
  | .glo y => hitE C c y
  | .ty n => if n = "ValueError" ∨ n = "Exception" then some true else none
  | _ => none
def hitsD (C : SC) (c : Str) : List D → Option Bool
  | [] => some false
  | d :: r => match hitD C c d, hitsD C c r with
    | some a, some b => some (a || b)
    | _, _ => none
def D.tup? : D → Option (List D)
  | .tup ds => some ds
  | _ => none
def hitA (C : SC) (c : Str) (d : D) : Option Bool := match d.tup? with
  | some ds => hitsD C c ds
  | none => hitD C c d
open Classical in
noncomputable def isiOf (C : SC) : List D → Option Bool
  | [.exv t c _, d] => if C.hot = some t then hitA C c d else none
  | _ => none
noncomputable def isiHot (C : SC) (fs : Ev → M (List D)) : Ev → M D := fun e => M.bind (fs e) fun xs => match isiOf C xs with
  | some b => M.pure (.bl b)
  | none => M.stuck
def isIsi (C : SC) (x : Str) (k : Nat) : Bool := !C.cool && x == ("isinstance" : Str) && isBi C "isinstance" && k == 2
open Classical in
/-- what an error keeps -/
noncomputable def attrM (C : SC) (f : Str) (fa : Ev → M D) : Ev → M D := fun e => M.bind (fa e) fun x => match x with
  | .exv t c as => if C.hot = some t then (match as.lookup f with
    | some l => M.pure l.d
    | none => M.stuck) else M.stuck
  | _ => M.stuck
noncomputable def attrAny (C : SC) (o : Expr) (f : Str) (fa : Ev → M D) : Ev → M D := if plainBase o = true then (if C.cool = true then attrO f fa else attrM C f fa) else fun _ => M.stuck
noncomputable def callAny (C : SC) (f : Expr) (args : List Expr) (kws : List Keyword) (pos : Pos) (fo : Ev → M D) (fs : Ev → M (List D)) (fin f1 : Ev → M D) : Ev → M D := match f, kws with
  | .Name x _, [] => if isSortSet C x args = true then sortSetT fin else if isLstRg C x args = true then lstRg fin else if ownIsi C x args = true then isiY C args f1 else if isIsi C x args.length = true then (if plainArgs args = true then isiHot C fs else fun _ => M.stuck) else if plainArgs args = true then callD C x args.length fs else fun _ => M.stuck
  | .Attribute o m apos, [] => if (plainArgs args && plainBase o && decide (args.length < 30) && (apos.endLine == pos.line)) = true then methD C m args.length fo fs else fun _ => M.stuck
  | _, _ => fun _ => M.stuck
def subAny (i : Expr) (fa fi : Ev → M D) (fl fh : Ev → M (Option Int)) : Ev → M D := match i with
  | .Slice lo hi st _ => (match st with
    | none => sliceM fa fl fh
    | some (.UnaryOp .USub (.Constant (.int 1) _ _) _) => (match lo, hi with
      | none, none => revM fa
      | _, _ => fun _ => M.stuck)
    | _ => fun _ => M.stuck)
  | _ => op2 ixD fa fi
def cmpAny (ops : List CmpOp) (cs : List Expr) (fa fb fc : Ev → M D) : Ev → M D := match ops, cs with
  | [op], [b] => if plainMark op b = true then op2 (cmpD op) fa fb else fun _ => M.stuck
  | [op, op'], [b, c] => if (plainMark op b && plainMark op' c) = true then op3 (cmpD op) (cmpD op') fa fb fc else fun _ => M.stuck
  | _, _ => fun _ => M.stuck
noncomputable def compAny (C : SC) (gens : List Comprehension) (scope : Scope) (fi : Ev → M D) (fs : Ev → M (List D)) (ft : Ev → M Bool) (fi1 : Ev → M D) (fs1 : Ev → M (List D)) (ft1 : Ev → M Bool) (fe : Ev → M D) : Ev → M D := match gens with
  | [⟨tg, iter, _, 0⟩] => (match tgOf (C.blk scope) tg with
    | some t => if (C.cool && blkC C.N C.sc scope (ownOf C.N scope.names) && t.slots.all (fun i => decide (i ∈ (ownOf C.N scope.names).map (·.2))) && noFold iter) = true then
        compM ((ownOf C.N scope.names).map (·.2)) t (srcM C tg iter fi fs) ft fe else fun _ => M.stuck
    | none => fun _ => M.stuck)
  | [⟨tg, iter, _, 0⟩, ⟨tg1, iter1, _, 0⟩] => (match tgOf (C.blk scope) tg, tgOf (C.blk scope) tg1 with
    | some t, some t1 => if (C.cool && blkC C.N C.sc scope (ownOf C.N scope.names) && t.slots.all (fun i => decide (i ∈ (ownOf C.N scope.names).map (·.2))) && t1.slots.all (fun i => decide (i ∈ (ownOf C.N scope.names).map (·.2))) && noFold iter && noFold iter1) = true then
        comp2M ((ownOf C.N scope.names).map (·.2)) t1.slots t (srcM C tg iter fi fs) ft t1 (srcM (C.blk scope) tg1 iter1 fi1 fs1) ft1 fe else fun _ => M.stuck
    | _, _ => fun _ => M.stuck)
  | _ => fun _ => M.stuck
noncomputable def dcompAny (C : SC) (gens : List Comprehension) (scope : Scope) (fi : Ev → M D) (fs : Ev → M (List D)) (ft : Ev → M Bool) (fk fv : Ev → M D) : Ev → M D := match gens with
  | [⟨tg, iter, _, 0⟩] => (match tgOf (C.blk scope) tg with
    | some t => if (C.cool && blkC C.N C.sc scope (ownOf C.N scope.names) && t.slots.all (fun i => decide (i ∈ (ownOf C.N scope.names).map (·.2))) && noFold iter) = true then
        dcompM ((ownOf C.N scope.names).map (·.2)) t (srcM C tg iter fi fs) ft fk fv else fun _ => M.stuck
    | none => fun _ => M.stuck)
  | _ => fun _ => M.stuck
/-- one pair, its key computed -/
def compK (ks : List (Option Expr)) (vs : List Expr) : Bool := match ks, vs with
  | [some k], [_] => (keyE k).isNone
  | _, _ => false
mutual
noncomputable def ev (C : SC) : Expr → Ev → M D
  | .Constant c _ _ => constM c
  | .Name x _ => nameM C x
  | .BoolOp op vs _ => (match op with
    | .And => evAnd C vs
    | .Or => evOr C vs)
  | .BinOp a op b _ => op2 (binD op) (ev C a) (ev C b)
  | .UnaryOp op a _ => (match op with
    | .Not => notV (ev C a)
    | .USub => negV (ev C a)
    | _ => fun _ => M.stuck)
  | .IfExp c a b _ => ifV (evT C c) (ev C a) (ev C b)
  | .Compare a ops cs _ => cmpAny ops cs (ev C a) (ev1 C cs) (ev2 C cs)
  | .Call f args kws pos => callAny C f args kws pos (evRecv C f) (evs C args) (evIn C args) (ev1 C args)
  | .Subscript a i _ => subAny i (ev C a) (ev C i) (evLo C i) (evHi C i)
  | .Tuple es _ _ => if plainArgs es = true then tupM (evs C es) else fun _ => M.stuck
  | .List es _ => if plainArgs es = true then lstM (evs C es) else fun _ => M.stuck
  | .Attribute o f _ => attrAny C o f (ev C o)
  | .Dict ks vs _ => (match ks, vs with
    | [], [] => nilDict
    | _, _ => if compK ks vs = true then dispN (evK1 C ks) (ev1 C vs) else dispAny ks vs.length (evs C vs))
  | .ListComp elt gens scope _ => compAny C gens scope (evGen C gens) (evGenA C gens) (evGenIf (C.blk scope) gens) (evGen1 (C.blk scope) gens) (evGenA1 (C.blk scope) gens) (evGenIf1 (C.blk scope) gens) (ev (C.blk scope) elt)
  | .DictComp k v gens scope _ => dcompAny C gens scope (evGen C gens) (evGenA C gens) (evGenIf (C.blk scope) gens) (ev (C.blk scope) k) (ev (C.blk scope) v)
  | _ => fun _ => M.stuck
noncomputable def evK1 (C : SC) : List (Option Expr) → Ev → M D
  | some k :: _ => ev C k
  | _ => fun _ => M.stuck
noncomputable def evs (C : SC) : List Expr → Ev → M (List D)
  | [] => fun _ => M.pure []
  | e :: es => consM (ev C e) (evs C es)
noncomputable def ev1 (C : SC) : List Expr → Ev → M D
  | [] => fun _ => M.stuck
  | e :: _ => ev C e
noncomputable def ev2 (C : SC) : List Expr → Ev → M D
  | [] => fun _ => M.stuck
  | _ :: es => ev1 C es
noncomputable def evRecv (C : SC) : Expr → Ev → M D
  | .Attribute o _ _ => ev C o
  | _ => fun _ => M.stuck
noncomputable def evArgs (C : SC) : Expr → Ev → M (List D)
  | .Call _ args _ _ => evs C args
  | _ => fun _ => M.stuck
noncomputable def evFst (C : SC) : Expr → Ev → M D
  | .Call _ args _ _ => ev1 C args
  | _ => fun _ => M.stuck
noncomputable def evIn (C : SC) : List Expr → Ev → M D
  | [] => fun _ => M.stuck
  | e :: _ => evFst C e
noncomputable def evLo (C : SC) : Expr → Ev → M (Option Int)
  | .Slice lo _ _ _ => evO C lo
  | _ => fun _ => M.stuck
noncomputable def evHi (C : SC) : Expr → Ev → M (Option Int)
  | .Slice _ hi _ _ => evO C hi
  | _ => fun _ => M.stuck
noncomputable def evGen (C : SC) : List Comprehension → Ev → M D
  | [] => fun _ => M.stuck
  | ⟨_, iter, _, _⟩ :: _ => ev C iter
noncomputable def evGen1 (C : SC) : List Comprehension → Ev → M D
  | [] => fun _ => M.stuck
  | _ :: gs => evGen C gs
noncomputable def evGenA1 (C : SC) : List Comprehension → Ev → M (List D)
  | [] => fun _ => M.stuck
  | _ :: gs => evGenA C gs
noncomputable def evGenIf1 (C : SC) : List Comprehension → Ev → M Bool
  | [] => fun _ => M.stuck
  | _ :: gs => evGenIf C gs
noncomputable def evGenA (C : SC) : List Comprehension → Ev → M (List D)
  | [] => fun _ => M.stuck
  | ⟨_, iter, _, _⟩ :: _ => evArgs C iter
noncomputable def evGenIf (C : SC) : List Comprehension → Ev → M Bool
  | [] => fun _ => M.stuck
  | ⟨_, _, ifs, _⟩ :: _ => evIfs C ifs
noncomputable def evAnd (C : SC) : List Expr → Ev → M D
  | [] => fun _ => M.stuck
  | e :: es => (match es with
    | [] => ev C e
    | _ :: _ => andV (ev C e) (evAnd C es))
noncomputable def evOr (C : SC) : List Expr → Ev → M D
  | [] => fun _ => M.stuck
  | e :: es => (match es with
    | [] => ev C e
    | _ :: _ => orV (ev C e) (evOr C es))
noncomputable def evO (C : SC) : Option Expr → Ev → M (Option Int)
  | none => fun _ => M.pure none
  | some e => fun v => M.bind (ev C e v) partD
noncomputable def evT (C : SC) : Expr → Ev → M Bool
  | .UnaryOp op a pos => (match op with
    | .Not => notM (evT C a)
    | .USub => truth (negV (ev C a))
    | _ => fun _ => M.stuck)
  | .BoolOp op vs _ => (match op with
    | .And => evTAnd C vs
    | .Or => evTOr C vs)
  | .Compare a ops cs _ => asTest (cmpAny ops cs (ev C a) (ev1 C cs) (ev2 C cs))
  | .Name x _ => truth (nameM C x)
  | .Call f args kws pos => truth (callAny C f args kws pos (evRecv C f) (evs C args) (evIn C args) (ev1 C args))
  | .Subscript a i _ => truth (subAny i (ev C a) (ev C i) (evLo C i) (evHi C i))
  | .Constant c _ _ => truth (constM c)
  | .Attribute o f _ => truth (attrAny C o f (ev C o))
  | _ => fun _ => M.stuck
noncomputable def evTAnd (C : SC) : List Expr → Ev → M Bool
  | [] => fun _ => M.stuck
  | e :: es => (match es with
    | [] => evT C e
    | _ :: _ => andM (evT C e) (evTAnd C es))
noncomputable def evTOr (C : SC) : List Expr → Ev → M Bool
  | [] => fun _ => M.stuck
  | e :: es => (match es with
    | [] => evT C e
    | _ :: _ => orM (evT C e) (evTOr C es))
noncomputable def evIfs (C : SC) : List Expr → Ev → M Bool
  | [] => fun _ => M.pure true
  | e :: es => (match es with
    | [] => evT C e
    | _ :: _ => fun _ => M.stuck)
end
end DL
set_option Elab.async false
set_option linter.all false
set_option maxRecDepth 100000
set_option maxHeartbeats 4000000
namespace DL
open PySem PySem.Spec PyProof.Rows L2

/-! ## the little machine is right: expressions -/
def GOk (X : Cx) (x : Str) : GI → Prop
  | .val d => ∃ u v, X.mg x = some u ∧ RelV v u ∧ ∀ m H, RV X.K X.mg m H d v
  | .fn n f => ∃ k g fd ps, FnG X.prog X.w X.K X.mg X.base (L2.CX X.prog X.w) k g fd ps (spD X.K X.mg n f) ∧ (X.calm = true → Room k X.A) ∧ X.mg x = some (.ref g) ∧ PySem.W.keepIn X.K (.ref g) = true ∧ Binds X.K fd ps []
  | .bi => X.mg x = none
  | .err fld => (X.calm = true → Room 1 X.A) ∧ ∃ E, X.mg x = some (.ref E) ∧ ErrC X.prog X.K E fld ∧ ErrM X.K X.mg x E
  | .base => x = "SilentError" ∧ ∃ E, X.mg x = some (.ref E)
  | .cls ci => ∃ C, X.mg x = some (.ref C) ∧ CK X.K X.mg ci C ∧ (∀ f ∈ ci.fl, NoAttr X.K C f) ∧
      (∀ n f, ci.ini = some (n, f) → ∃ k g fd ps, (X.calm = true → Room (k + 1) X.A) ∧ Mk X.K C g ∧ CF X.K C ∧ FnG X.prog X.w X.K X.mg X.base (L2.CX X.prog X.w) k g fd ps (spD X.K X.mg n f) ∧ Binds X.K fd ps []) ∧
      ∀ m n f, ci.ms.lookup m = some (n, f) → ∃ k g fd ps, (X.calm = true → Room k X.A) ∧ Meth X.K C m g ∧ FnG X.prog X.w X.K X.mg X.base (L2.CX X.prog X.w) k g fd ps (spD X.K X.mg n f) ∧ Binds X.K fd ps []
structure XOk (C : SC) (X : Cx) (W : WX) : Prop where
  N : X.N = C.N
  sc : X.env.scope = C.sc
  nd : X.N.Nodup
  calm : C.cool = true → X.calm = true
  st : C.inb = false → X.stack = X.env :: X.outer ∧ X.env.frame = some X.env.locals
  hot : ∀ t, C.hot = some t → ∃ oe : Obj, (t.a, oe) ∈ X.pn ∧ Zc t.cls t.d oe ∧ ∃ vs, oe.data = .fields vs
  po : PassesOwn (model X.prog X.w) X.A X.env X.xe
  tk : Takes X W
  u : X.A.units + 65 < cLine
  gd : X.A.guards = some []
  kd : X.env.scope.kind = .function
  fn : ∀ x, C.fnc x = true → X.fn x = true
  gl : ∀ x g, C.G x = some g → GOk X x g
theorem XOk.blk {C : SC} {X : Cx} {W : WX} (h : XOk C X W) (hcl : C.cool = true) {scope : Scope} (hk : scope.kind = .function) (s : Shared) (H : Hp) (Cc : Addr) (cl : List (Str × Addr)) (fp : List Addr) : XOk (C.blk scope) (X.blk s H scope (compEnvC scope cl Cc X.env) fp) WF where
  N := h.N
  sc := by show relS scope X.env.scope = relS scope C.sc; rw [h.sc]
  nd := h.nd
  calm := fun _ => h.calm hcl
  st := fun e => by cases (show true = false from e)
  hot := fun t e => by
    have e' : C.hot = some t := e
    unfold SC.cool at hcl
    rw [e'] at hcl
    cases hcl
  po := PassesOwn.never
  tk := takes_none5
  u := h.u
  gd := h.gd
  kd := hk
  fn := fun _ q => q
  gl := fun x g e => by
    have q := h.gl x g e
    cases g with
    | val d => exact q
    | fn n f => exact q
    | bi => exact q
    | err => exact q
    | base => exact q
    | cls => exact q
def BiOk (X : Cx) (x : Str) (f : List D → P D) : Prop := (∃ id, bootBuiltins x = some (.builtin id) ∧ CallR X (.builtin id) (rPn X.K X.mg f)) ∨ ∃ T, bootBuiltins x = some (.type T) ∧ CallR X (.type T) (rPn X.K X.mg f)
section
variable {X : Cx}
theorem bi_all (hc : X.calm = true) (gd : X.A.guards = some []) (hu : X.A.units + 65 < cLine) : ∀ p ∈ builtins, BiOk X p.1 p.2 := by
  intro p hp
  simp only [builtins, List.mem_cons, List.not_mem_nil, or_false] at hp
  rcases hp with rfl | rfl | rfl | rfl | rfl | rfl | rfl | rfl | rfl | rfl | rfl | rfl | rfl
  · exact .inl ⟨_, by decide +kernel, lenD_ok⟩
  · exact .inl ⟨_, by decide +kernel, absD_ok⟩
  · exact .inl ⟨_, by decide +kernel, max2_ok hc hu⟩
  · exact .inl ⟨_, by decide +kernel, min2_ok hc hu⟩
  · exact .inl ⟨_, by decide +kernel, allD_ok hc⟩
  · exact .inl ⟨_, by decide +kernel, anyD_ok hc⟩
  · exact .inl ⟨_, by decide +kernel, isiD_ok⟩
  · exact .inr ⟨_, by decide +kernel, intD_ok⟩
  · exact .inr ⟨_, by decide +kernel, tupleD_ok⟩
  · exact .inr ⟨_, by decide +kernel, listD_ok⟩
  · exact .inl ⟨_, by decide +kernel, reprD_ok gd hu⟩
  · exact .inr ⟨_, by decide +kernel, strD_ok⟩
  · exact .inl ⟨_, by decide +kernel, sortD_ok hc hu⟩
theorem hot_all : ∀ p ∈ hotBuiltins, BiOk X p.1 p.2 := by
  intro p hp
  simp only [hotBuiltins, List.mem_cons, List.not_mem_nil, or_false] at hp
  rcases hp with rfl | rfl | rfl | rfl | rfl | rfl
  · exact .inl ⟨_, by decide +kernel, lenD_ok⟩
  · exact .inl ⟨_, by decide +kernel, absD_ok⟩
  · exact .inl ⟨_, by decide +kernel, isiD_ok⟩
  · exact .inr ⟨_, by decide +kernel, intD_ok⟩
  · exact .inr ⟨_, by decide +kernel, tupleD_ok⟩
  · exact .inr ⟨_, by decide +kernel, listD_ok⟩
theorem ty_all : ∀ p ∈ tyNames, bootBuiltins p.1 = some (.type p.2) := by
  intro p hp
  simp only [tyNames, List.mem_cons, List.not_mem_nil, or_false] at hp
  rcases hp with rfl | rfl | rfl | rfl | rfl | rfl | rfl | rfl <;> decide +kernel
def MtOk (X : Cx) (name : Str) (T : String) (f : D → List D → P D) : Prop := ∃ id, PlainAttrs T ∧ Slot T name id ∧ typeOf (.builtin id) = pure (.type "method_descriptor") ∧ MtR X id (rMt X.K X.mg f)
theorem mt_all (hu : X.A.units + 65 < cLine) : ∀ p ∈ methods, MtOk X p.1.1 p.2.1 p.2.2 := by
  intro p hp
  simp only [methods, List.mem_cons, List.not_mem_nil, or_false] at hp
  rcases hp with rfl | rfl | rfl | rfl | rfl | rfl | rfl | rfl | rfl | rfl
  · exact ⟨_, PySem.F.plainAttrs_list, PySem.F.slot_list_append, PySem.F.type_list_append, appendD_ok⟩
  · exact ⟨_, PySem.F.plainAttrs_list, PySem.F.slot_list_extend, PySem.F.type_list_extend, extendD_ok⟩
  · exact ⟨_, PySem.F.plainAttrs_list, PySem.F.slot_list_pop, PySem.F.type_list_pop, popD_ok⟩
  · exact ⟨_, PySem.F.plainAttrs_list, PySem.F.slot_list_pop, PySem.F.type_list_pop, popAtD_ok⟩
  · exact ⟨_, PySem.F.plainAttrs_list, PySem.F.slot_list_index, PySem.F.type_list_index, indexD_ok hu⟩
  · exact ⟨_, PySem.F.plainAttrs_str, PySem.F.slot_str_join, PySem.F.type_str_join, joinD_ok⟩
  · exact ⟨_, PySem.F.plainAttrs_str, PySem.F.slot_str_split, PySem.F.type_str_split, splitD_ok⟩
  · exact ⟨_, PySem.F.plainAttrs_dict, PySem.F.slot_dict_setdefault, PySem.F.type_dict_setdefault, setdefD_ok hu⟩
  · exact ⟨_, PySem.F.plainAttrs_dict, PySem.F.slot_dict_pop, PySem.F.type_dict_pop, popKD_ok hu⟩
  · exact ⟨_, PySem.F.plainAttrs_dict, PySem.F.slot_dict_update, PySem.F.type_dict_update, updD_ok hu⟩
end
theorem lk_mem {α β : Type} [BEq α] [LawfulBEq α] {a : α} {b : β} : ∀ {l : List (α × β)}, l.lookup a = some b → (a, b) ∈ l
  | [], h => by cases h
  | (x, y) :: l, h => by
    rw [List.lookup_cons] at h
    split at h
    · rename_i e
      cases h
      rw [eq_of_beq e]
      exact List.mem_cons_self
    · exact List.mem_cons_of_mem _ (lk_mem h)
theorem plain_ne {x : Str} (h : plainName x = true) : (x == ("__debug__" : Str)) = false ∧ (x == ("__classdict__" : Str)) = false ∧ x ≠ "__name__" := by
  unfold plainName at h
  simp only [Bool.and_eq_true, Bool.not_eq_true'] at h
  exact ⟨h.1.1, h.1.2, by simpa using h.2⟩
section
variable {C : SC} {X : Cx} {W : WX}
theorem nameM_ok (h : XOk C X W) {x : Str} {pos : Pos} : DE X W (.Name x pos) (nameM C x) := by
  unfold nameM
  split
  · rename_i hp
    obtain ⟨h1, h2, h3⟩ := plain_ne hp
    have vis : ∀ {i : Nat}, findIx C.N x = some i → Vis X.env.scope x → DE X W (.Name x pos) (varD i) := fun {i} e v => de_var (pe_var (by rw [h.N]; exact findIx_get e) v h1 h2)
    split
    · rename_i e
      split
      · rename_i i ei; exact vis ei (by rw [h.sc]; exact .inl e)
      · exact de_no
    · rename_i e
      split
      · rename_i i ei; exact vis ei (by rw [h.sc]; exact .inr (.inl e))
      · exact de_no
    · rename_i e
      split
      · rename_i i ei; exact vis ei (by rw [h.sc]; exact .inr (.inr e))
      · exact de_no
    · rename_i e
      have hg : Gl X x := by show X.env.scope.names.lookup x = _; rw [h.sc]; exact e
      split
      · rename_i d ed
        obtain ⟨u, v, e1, r, q⟩ := h.gl x _ ed
        exact de_const (pe_glob hg e1 r h1) q
      · rename_i ed
        have hm : X.mg x = none := h.gl x _ ed
        split
        · rename_i n en
          have hb := ty_all _ (PySem.mem_of_lookup en)
          exact de_const (pe_bltn (v := .ty n) hg hm hb rfl h3 h1) fun _ _ => mk_ty
        · exact de_no
      · rename_i ed
        obtain ⟨_, E, hm, _⟩ := h.gl x _ ed
        exact de_const (pe_glob (v := .ref E) hg hm rfl h1) fun _ _ => by simp only [RV]; exact ⟨E, rfl, hm⟩
      · rename_i ed
        obtain ⟨_, E, hm⟩ := h.gl x _ ed
        exact de_const (pe_glob (v := .ref E) hg hm rfl h1) fun _ _ => by simp only [RV]; exact ⟨E, rfl, hm⟩
      · rename_i ed
        obtain ⟨E, hm, _⟩ := h.gl x _ ed
        exact de_const (pe_glob (v := .ref E) hg hm rfl h1) fun _ _ => by simp only [RV]; exact ⟨E, rfl, hm⟩
      · exact de_no
    · exact de_no
  · exact de_no
theorem constM_ok {c : Const} {k : Nat} {pos : Pos} : DE X W (.Constant c k pos) (constM c) := by
  cases c with
  | none => exact de_const pe_non fun _ _ => mk_non
  | bool b => exact de_const pe_bl fun _ _ => mk_bl
  | int i => exact de_const pe_int fun _ _ => mk_int
  | str x => exact de_const pe_str fun _ _ => mk_str
  | _ => exact de_no
theorem glob_of (h : XOk C X W) {x : Str} (e : isGlobal C x = true) : Gl X x ∧ (x == ("__debug__" : Str)) = false ∧ x ≠ "__name__" := by
  unfold isGlobal at e
  rw [Bool.and_eq_true] at e
  obtain ⟨h1, h2, h3⟩ := plain_ne e.1
  have q := e.2
  split at q
  · rename_i el
    exact ⟨by show X.env.scope.names.lookup x = _; rw [h.sc]; exact el, h1, h3⟩
  · cases q
theorem isBi_of (h : XOk C X W) {x : Str} (e : isBi C x = true) : Gl X x ∧ X.mg x = none ∧ (x == ("__debug__" : Str)) = false ∧ x ≠ "__name__" := by
  unfold isBi at e
  rw [Bool.and_eq_true] at e
  obtain ⟨h1, h2, h3⟩ := glob_of h e.1
  have q := e.2
  split at q
  · rename_i el
    exact ⟨h1, h.gl x _ el, h2, h3⟩
  · cases q
theorem callD_ok (h : XOk C X W) {x : Str} {p pos : Pos} {args : List Expr} {fs : Ev → M (List D)} (hp : plainArgs args = true) (ha : DA X W args fs) (h0 : args = [] → fs = fun _ => M.pure []) : DE X W (.Call (.Name x p) args [] pos) (callD C x args.length fs) := by
  unfold callD
  split
  · rename_i hg
    obtain ⟨h1, h2, h3⟩ := glob_of h hg
    split
    · rename_i n f e
      split
      rotate_left
      · exact de_no
      rename_i hcool
      obtain ⟨k, g, fd, ps, F, hr, hm, hk, hb⟩ := h.gl x _ e
      have hr := hr (h.calm hcool)
      cases args with
      | nil =>
        rw [h0 rfl]
        by_cases hn : n = 0
        · subst hn
          have q := de_call0 (pos := pos) (p := p) F h.gd hr h1 hm hk hb h.tk h2
          exact q
        · refine ⟨fun pins s σ H Q I ⟨m, ev, hs, rs, hrr, q⟩ => ?_⟩
          have q' : AfterM X.K X.mg W σ m H ((if ([] : List D).length = n then f [] else M.stuck) hs) _ := q
          rw [if_neg (by simpa using fun e => hn e.symm)] at q'
          exact q'.elim
      | cons a es =>
        simp only [plainArgs, Bool.and_eq_true] at hp
        exact de_call F h.gd hr h1 hm hk hb h.tk ha h2 (star_cons hp.1) (any_plain hp.2)
    · rename_i ci e
      split
      rotate_left
      · exact de_no
      rename_i hcool
      obtain ⟨E, hm, _, _, hi, _⟩ := h.gl x _ e
      split
      · rename_i n f en
        obtain ⟨k, g, fd, ps, hr, M, cf, F, hb⟩ := hi n f en
        exact de_mk ⟨hm, M, cf, F, hr (h.calm hcool), hb⟩ h.gd h.tk h1 h2 ha h0 hp
      · exact de_no
    · rename_i e
      have hm : X.mg x = none := h.gl x _ e
      cases args with
      | nil => exact de_no
      | cons a es =>
        simp only [plainArgs, Bool.and_eq_true] at hp
        rw [if_pos (by simp)]
        split
        · rename_i f ef
          have bo : BiOk X x f := by
            by_cases hcool : C.cool = true
            · rw [if_pos hcool] at ef
              exact bi_all (h.calm hcool) h.gd h.u _ (PySem.mem_of_lookup ef)
            · rw [if_neg hcool] at ef
              exact hot_all _ (PySem.mem_of_lookup ef)
          rcases bo with ⟨id, e1, c⟩ | ⟨T, e1, c⟩
          · exact (pe_callB c h1 hm e1 ha h3 h2 (star_cons hp.1) (any_plain hp.2)).imp fun _ _ _ q => callM_ok q
          · exact (pe_callTy c h1 hm e1 ha h3 h2 (star_cons hp.1) (any_plain hp.2)).imp fun _ _ _ q => callM_ok q
        · exact de_no
    · exact de_no
  · exact de_no
theorem methD_ok (h : XOk C X W) {m : Str} {o : Expr} {apos pos : Pos} {args : List Expr} {fo : Ev → M D} {fs : Ev → M (List D)} (ho : DE X W o fo) (ha : DA X W args fs) (h0 : args = [] → fs = fun _ => M.pure [])
    (hb : plainBase o = true) (hp : plainArgs args = true) (hl : args.length < 30) (hline : (apos.endLine == pos.line) = true) : DE X W (.Call (.Attribute o m apos) args [] pos) (methD C m args.length fo fs) := by
  unfold methD
  split
  · rename_i T f e
    obtain ⟨id, pa, sl, ty, mt⟩ := mt_all (X := X) h.u ((m, args.length), T, f) (lk_mem e)
    cases args with
    | nil => rw [h0 rfl]; exact de_bm0 pa sl ty mt ho hb hline
    | cons a es => exact de_bm pa sl ty mt ho ha hb hp hl hline
  · split
    · rename_i hcool
      refine de_own (fun c k f e => ?_) h.gd h.tk ho ha h0 hb hp hl hline
      unfold tabG ciG at e
      split at e
      · rename_i ci ec
        obtain ⟨Cc, hm, _, _, _, hms⟩ := h.gl c _ ec
        obtain ⟨j, g, fd, ps, hr, M, F, hbi⟩ := hms m k f e
        exact ⟨Cc, j, g, fd, ps, hm, M, F, hr (h.calm hcool), hbi⟩
      · cases e
    · exact de_no
theorem plain_fold {e : Expr} {env : Env} (h : noFold e = true) : ∀ x, foldedSetIterable e env x = pure x := fun x => by
  cases e <;> first | rfl | cases h
theorem pts_two {X : Cx} : True := trivial
/-! targets -/
theorem slot_ok (h : XOk C X W) {x : Str} {i : Nat} (e : slotOf C x = some i) : X.N[i]? = some x ∧ Loc X.env.scope x ∧ (X.fn x = true ∨ X.env.scope.names.lookup x = some .local) := by
  unfold slotOf at e
  split at e
  · rename_i el
    exact ⟨by rw [h.N]; exact findIx_get e, .inl (by rw [h.sc]; exact el), .inr (by rw [h.sc]; exact el)⟩
  · rename_i el
    split at e
    · rename_i hf
      exact ⟨by rw [h.N]; exact findIx_get e, .inr (by rw [h.sc]; exact el), .inl (h.fn x hf)⟩
    · cases e
  · cases e
theorem pgName_ok (h : XOk C X W) {x : Str} {i : Nat} {pos : Pos} (e : slotOf C x = some i) : PG X (.Name x pos) (gName i) := let ⟨h1, h2, h3⟩ := slot_ok h e; pg_name h.nd h1 h2 h3
theorem slots_ok (h : XOk C X W) : ∀ {es : List Expr} {is : List Nat}, slotsOf C es = some is → PGs X es (gNames is) ∧ es.length = is.length
  | [], _, e => by cases e; exact ⟨pgs_nil, rfl⟩
  | a :: es, is, e => by
    cases a <;> simp only [slotsOf] at e <;> try cases e
    split at e
    · rename_i i js e1 e2
      cases e
      obtain ⟨q1, q2⟩ := slots_ok h e2
      exact ⟨pgs_cons (pgName_ok h e1) q1 (by rfl), by simp [q2]⟩
    · cases e
theorem tgOf_ok (h : XOk C X W) {tg : Expr} {t : Tg} (e : tgOf C tg = some t) : PG X tg (gD X.K X.mg t) := by
  cases tg <;> simp only [tgOf] at e <;> try cases e
  · obtain ⟨i, ei, rfl⟩ := Option.map_eq_some_iff.mp e
    exact pg_one (pgName_ok h ei)
  · split at e
    · rename_i hp
      rw [Bool.and_eq_true] at hp
      obtain ⟨is, ei, rfl⟩ := Option.map_eq_some_iff.mp e
      obtain ⟨q1, q2⟩ := slots_ok h ei
      exact pg_many (h.calm hp.2) q1 q2 hp.1
    · cases e
theorem srcM_ok (h : XOk C X W) {tg iter : Expr} {f : Ev → M D} {fs : Ev → M (List D)} (hf : DE X W iter f) (hs : ∀ g as ks p, iter = .Call g as ks p → plainArgs as = true → DA X W as fs) : DI X W tg iter (srcM C tg iter f fs) := by
  unfold srcM
  split
  · rename_i x p args pos
    split
    · rename_i hc
      rw [Bool.and_eq_true] at hc
      obtain ⟨hb, hp⟩ := hc
      obtain ⟨h1, h2, h3, h4⟩ := isBi_of h hb
      have ha := hs _ _ _ _ rfl hp
      unfold srcOf
      split
      · rename_i ex
        subst ex
        match args, hp, ha with
        | [], _, _ => exact di_no
        | [a], hp, ha =>
          simp only [plainArgs, Bool.and_eq_true] at hp
          exact di_range1 h1 h2 ha hp.1
        | [a, b], hp, ha =>
          simp only [plainArgs, Bool.and_eq_true] at hp
          exact di_range2 h1 h2 ha hp.1 hp.2.1
        | [a, b, c], hp, ha => exact di_range3 h1 h2 ha hp
        | _ :: _ :: _ :: _ :: _, _, _ => rw [if_neg (by simp), if_neg (by simp)]; exact di_no
      · split
        · rename_i ex
          subst ex
          split
          · rename_i hk
            match args, hk, hp, ha with
            | [a], hk, hp, ha =>
              simp only [plainArgs, Bool.and_eq_true] at hp
              cases tg <;> first | exact di_enum h1 h2 ha hp.1 | (simp [isTup] at hk)
            | [], hk, _, _ => simp at hk
            | _ :: _ :: _, hk, _, _ => simp at hk
          · exact di_no
        · split
          · rename_i ex
            subst ex
            split
            · rename_i hk
              match args, hk, hp, ha with
              | [a, b], hk, hp, ha =>
                simp only [plainArgs, Bool.and_eq_true] at hp
                cases tg <;> first | exact di_zip h1 h2 ha hp.1 hp.2.1 | (simp [isTup] at hk)
              | [], hk, _, _ => simp at hk
              | [_], hk, _, _ => simp at hk
              | _ :: _ :: _ :: _, hk, _, _ => simp at hk
            · exact di_no
          · exact di_seq hf
    · exact di_seq hf
  · exact di_seq hf
end
end DL
set_option Elab.async false
set_option linter.all false
set_option maxRecDepth 100000
set_option maxHeartbeats 4000000
namespace DL
open PySem PySem.Spec PyProof.Rows L2

/-! ## classes named behind except, in isinstance -/
section
variable {C : SC} {X : Cx} {W : WX} {c y : Str} {E : Addr} {b : Bool}
theorem err_sub {K : PySem.W.Frag} {mg : Str → Option Value} (h : ErrM K mg c E) : ∃ S, mg "SilentError" = some (.ref S) ∧ S ≠ E ∧ (∀ v, PySem.W.subIn K (.ref E) v = some ([Value.ref E, .ref S, .type "ValueError", .type "Exception", .type "BaseException", .type "object"].contains v)) ∧ (PySem.W.clsIn K E).isSome = true ∧ PySem.W.typeIn K (.ref E) = some (.type "type") := by
  obtain ⟨S, cd, h1, h2, h3, h4, h5, h6, h7, h8, h9, _⟩ := h
  refine ⟨S, h4, h9, fun v => ?_, by rw [h1]; rfl, h8⟩
  show PySem.W.mroIn K E v = _
  unfold PySem.W.mroIn
  rw [h1, Option.bind_some, h3]
  rfl
theorem err_inj {K : PySem.W.Frag} {mg : Str → Option Value} {y : Str} (h : ErrM K mg c E) (h' : ErrM K mg y E) : c = y := by
  obtain ⟨S, cd, h1, h2, _⟩ := h
  obtain ⟨S', cd', g1, g2, _⟩ := h'
  rw [h1] at g1
  cases g1
  exact h2.symm.trans g2
/-- what a class that is named says of a thrown one -/
theorem hit_ok (h : XOk C X W) (hE : ErrM X.K X.mg c E) (hc : X.mg c = some (.ref E)) (e : hitE C c y = some b) : ∃ D, X.mg y = some (.ref D) ∧ PySem.W.kitOne X.K (.ref E) (.ref D) = some b ∧ PySem.W.exmOne X.K (.ref E) (.ref D) = some b := by
  obtain ⟨S, s1, s2, s3, s4, s5⟩ := err_sub hE
  have key : ∀ {D : Addr} {v : Bool}, (PySem.W.clsIn X.K D).isSome = true → PySem.W.typeIn X.K (.ref D) = some (.type "type") → PySem.W.subIn X.K (.ref D) (.type "BaseException") = some true → ([Value.ref E, .ref S, .type "ValueError", .type "Exception", .type "BaseException", .type "object"].contains (.ref D)) = v →
      PySem.W.kitOne X.K (.ref E) (.ref D) = some v ∧ PySem.W.exmOne X.K (.ref E) (.ref D) = some v := by
    intro D v h1 h2 h3 h4
    have e1 : ((PySem.W.clsIn X.K D).isSome && PySem.W.typeIn X.K (.ref D) == some (.type "type")) = true := by rw [h1, h2]; rfl
    have e2 : PySem.W.kitCls X.K (.ref E) (.ref D) = some v := by
      unfold PySem.W.kitCls
      simp only
      rw [if_pos e1, s3, h4]
    refine ⟨?_, ?_⟩
    · unfold PySem.W.kitOne
      split
      · rename_i q
        have q' := eq_of_beq q
        rw [← h4, ← q']
        simp
      · exact e2
    · unfold PySem.W.exmOne
      rw [h3]
      simpa using e2
  unfold hitE at e
  split at e
  · rename_i fld ey
    cases e
    obtain ⟨_, D, hD, _, hDM⟩ := h.gl y _ ey
    obtain ⟨S', g1, g2, g3, g4, g5⟩ := err_sub hDM
    rw [s1] at g1
    cases g1
    obtain ⟨k1, k2⟩ := key g4 g5 (by rw [g3]; simp) (v := decide (c = y)) (by
      by_cases q : c = y
      · subst q
        rw [hc] at hD
        cases hD
        simp
      · have ne : D ≠ E := fun z => q (err_inj (z ▸ hE) (hDM))
        have n2 : D ≠ S := fun z => g2 z.symm
        simp [q, ne, n2])
    exact ⟨D, hD, k1, k2⟩
  · rename_i ey
    cases e
    obtain ⟨rfl, D, hD⟩ := h.gl y _ ey
    have hD' := hD
    rw [s1] at hD'
    cases hD'
    obtain ⟨S', cd, h1, h2, h3, h4, h5, h6, h7, _⟩ := hE
    rw [hD] at h4
    cases h4
    obtain ⟨k1, k2⟩ := key h5 h7 h6 (v := true) (by simp)
    exact ⟨S, hD, k1, k2⟩
  · cases e
theorem hit_ty (hE : ErrM X.K X.mg c E) {n : String} (hn : n = "ValueError" ∨ n = "Exception") : PySem.W.kitOne X.K (.ref E) (.type n) = some true ∧ PySem.W.exmOne X.K (.ref E) (.type n) = some true := by
  obtain ⟨S, s1, s2, s3, s4, s5⟩ := err_sub hE
  have hm : PySem.W.kitMeta n = true := by rcases hn with rfl | rfl <;> decide +kernel
  have hb : PySem.W.subIn X.K (.type n) (.type "BaseException") = some true := by
    unfold PySem.W.subIn
    rcases hn with rfl | rfl <;> kernel_rfl
  have e2 : PySem.W.kitCls X.K (.ref E) (.type n) = some true := by
    unfold PySem.W.kitCls
    simp only
    rw [if_pos hm, s3]
    rcases hn with rfl | rfl <;> simp
  refine ⟨?_, ?_⟩
  · unfold PySem.W.kitOne
    split
    · rfl
    · exact e2
  · unfold PySem.W.exmOne
    rw [hb]
    simpa using e2
theorem hitD_ok (h : XOk C X W) (hE : ErrM X.K X.mg c E) (hc : X.mg c = some (.ref E)) {d : D} {m : List Addr} {H : Hp} {v : V} (e : hitD C c d = some b) (r : RV X.K X.mg m H d v) : ∃ u, ClsV v u ∧ PySem.W.kitOne X.K (.ref E) u = some b := by
  unfold hitD at e
  split at e
  · rename_i y
    obtain ⟨D, hD, k, _⟩ := hit_ok h hE hc e
    simp only [RV] at r
    obtain ⟨a, rfl, hm⟩ := r
    rw [hD] at hm
    cases hm
    exact ⟨_, .own D, k⟩
  · rename_i n
    split at e
    · rename_i hn
      cases e
      obtain rfl := rv_ty r
      exact ⟨_, .ty n, (hit_ty hE hn).1⟩
    · cases e
  · cases e
theorem hitsD_ok (h : XOk C X W) (hE : ErrM X.K X.mg c E) (hc : X.mg c = some (.ref E)) {m : List Addr} {H : Hp} : ∀ {ds : List D} {vs : List V} {b : Bool}, hitsD C c ds = some b → RVs X.K X.mg m H ds vs → ∃ us, Paired ClsV vs us ∧ PySem.W.kitAny X.K (.ref E) us = some b
  | [], vs, b, e, r => by
    rw [RVs.nil_iff] at r; subst r
    exact ⟨[], .nil, e⟩
  | d :: ds, vs, b, e, r => by
    obtain ⟨v, r', rfl, r1, r2⟩ := RVs.cons_iff.mp r
    unfold hitsD at e
    split at e
    · rename_i a b' q q'
      cases e
      obtain ⟨u, p1, p2⟩ := hitD_ok h hE hc q r1
      obtain ⟨us, p3, p4⟩ := hitsD_ok h hE hc q' r2
      refine ⟨u :: us, .cons p1 p3, ?_⟩
      unfold PySem.W.kitAny
      rw [p2]
      cases a
      · simpa using p4
      · rfl
    · cases e
/-- isinstance(e, c), isinstance(e, (c, d)) within the suite -/
theorem isiHot_ok (h : XOk C X W) {p pos : Pos} {args : List Expr} {fs : Ev → M (List D)} (hl : args.length = 2) (hb : isBi C "isinstance" = true) (hp : plainArgs args = true) (ha : DA X W args fs) : DE X W (.Call (.Name "isinstance" p) args [] pos) (isiHot C fs) := by
  obtain ⟨h1, h2, h3, h4⟩ := isBi_of h hb
  match args, hl, hp, ha with
  | [a, b'], _, hp, ha =>
  simp only [plainArgs, Bool.and_eq_true] at hp
  refine (pe_callB (id := "isinstance") (r := fun vs H Q => ∃ (m : List Addr) (xs : List D) (b : Bool), RVs X.K X.mg m H xs vs ∧ isiOf C xs = some b ∧ Q (.bl b) H) ?_ h1 h2 (by kernel_rfl) ha h4 h3 (star_cons hp.1) (any_plain (by simp [plainArgs, hp.2]))).imp fun σ H Q ⟨m, ev, hs, rs, hr, q⟩ => ?_
  · intro pins s σ H vs us Q I r q
    obtain ⟨m, xs, b, rs, eb, q⟩ := q
    unfold isiOf at eb
    split at eb
    · rename_i t c as d
      split at eb
      · rename_i ht
        obtain ⟨oe, hpin, hz, vs0, hd⟩ := h.hot _ ht
        obtain ⟨v, w, rfl, r1, r2⟩ := rvs2 rs
        simp only [RV] at r1
        obtain ⟨rfl, E, c1, c2, c3, c3', c4⟩ := r1
        obtain ⟨hget, _⟩ := I.pin (t.a, oe) (List.mem_append.mpr (.inl hpin))
        have hx : ∃ ox od, PySem.W.InstAt s.heap t.a ox E od := by
          cases ed : t.d with
          | none => exact ⟨oe, none, hget, hz.1.trans c2, by unfold PySem.W.notCls; rw [hd], by rw [hz.2, ed]; trivial⟩
          | some dd =>
            rcases c4 with ⟨_, c4⟩ | ⟨d2, c4, c5⟩
            · rw [ed] at c4; cases c4
            · rw [ed] at c4
              cases c4
              obtain ⟨mA, ⟨o, es, ep, ho, _⟩, _⟩ := (show ObjOk X.prog X.w H s.heap dd (.xd _) from I.hok dd _ c5)
              exact ⟨oe, some o, hget, hz.1.trans c2, by unfold PySem.W.notCls; rw [hd], by rw [hz.2, ed]; exact ho⟩
        have Z : PySem.W.KitX X.K (.ref t.a) (.ref E) (fun h => ∃ ox od, PySem.W.InstAt h t.a ox E od) := kitx_err (by obtain ⟨_, _, _, _, _, _, _, _, _, _, _, _, _, q⟩ := c3; exact q)
        unfold hitA at eb
        obtain ⟨u1, u2, rfl, g1, g2⟩ := vals2 r
        cases (show u1 = Value.ref t.a from g1)
        split at eb
        · rename_i ds et
          cases d <;> cases et
          obtain ⟨tp, cs, rfl, hT, r3⟩ := rv_tup r2
          obtain ⟨ws, p1, p2⟩ := hitsD_ok h c3 c1 eb r3
          exact isi_tupZ I (.cons g2 .nil) hT p1 Z hx (fun z => nomatch z) p2 q
        · obtain ⟨u, k1, k2⟩ := hitD_ok h c3 c1 eb r2
          have e2 := k1.eq g2
          subst e2
          exact PySem.W.kia_one Z I.kIn hx k2 (fun z => nomatch z) fun tk => ⟨.bl b, H, I.tok tk, rfl, q⟩
      · cases eb
    · cases eb
  · refine ⟨m, ev, hs, rs, hr, q.bind.mono fun xs m1 hs1 H1 e1 hr1 q1 vs rvs => ?_⟩
    cases eb : isiOf C xs with
    | none => simp only [eb] at q1; exact q1.elim
    | some b => simp only [eb] at q1; exact ⟨m1, xs, b, rvs, eb, q1.pure hr1 _ mk_bl⟩
theorem lf_rv {K : PySem.W.Frag} {mg : Str → Option Value} {m : List Addr} {H : Hp} (l : Lf) : RV K mg m H l.d l.v := by
  cases l <;> simp [Lf.d, Lf.v, RV]
theorem lf_lookup : ∀ {as : List (Str × Lf)} {f : Str} {l : Lf}, as.lookup f = some l → (as.map fun p => (p.1, p.2.v)).lookup f = some l.v ∧ ∃ p ∈ as, p.1 = f
  | [], _, _, h => by cases h
  | (y, k) :: r, f, l, h => by
    rw [List.lookup_cons] at h
    simp only [List.map_cons]
    rw [List.lookup_cons]
    split at h
    · rename_i q
      cases h
      exact ⟨rfl, _, List.mem_cons_self, (eq_of_beq q).symm⟩
    · obtain ⟨h1, p, h2, h3⟩ := lf_lookup h
      exact ⟨h1, p, List.mem_cons_of_mem _ h2, h3⟩
theorem attrM_ok (h : XOk C X W) {o : Expr} {f : Str} {pos : Pos} {fo : Ev → M D} (hb : plainBase o = true) (ho : DE X W o fo) : DE X W (.Attribute o f pos) (attrM C f fo) := by
  refine ⟨fun pins s σ H Q I ⟨m, ev, hs, rs, hr, q⟩ => ?_⟩
  refine attr_of (base_plain hb) (thn (ho.run pins s σ H (fun v H1 => ∃ (m1 : List Addr) (t : Tk) (c : Str) (as : List (Str × Lf)) (l : Lf), RV X.K X.mg m1 H1 (.exv t c as) v ∧ C.hot = some t ∧ as.lookup f = some l ∧ Q l.v H1) I ⟨m, ev, hs, rs, hr, q.bind.mono fun x m1 hs1 H1 e1 hr1 q1 v rv => ?_⟩) fun u s1 ⟨v, H1, I1, ru, m1, t, c, as, l, rv, ht, hl, qq⟩ => ?_)
  · cases x <;> try exact q1.elim
    rename_i t c as
    by_cases ht : C.hot = some t
    · simp only [if_pos ht] at q1
      cases hl : as.lookup f with
      | none => simp only [hl] at q1; exact q1.elim
      | some l => simp only [hl] at q1; exact ⟨m1, t, c, as, l, rv, ht, hl, q1.pure hr1 _ (lf_rv l)⟩
    · simp only [if_neg ht] at q1
      exact q1.elim
  · simp only [RV] at rv
    obtain ⟨rfl, E, c1, c2, c3, c3', c4⟩ := rv
    obtain rfl : u = Value.ref t.a := ru
    obtain ⟨oe, hpin, hz, vs0, hd⟩ := h.hot _ ht
    obtain ⟨hget, _⟩ := I1.pin (t.a, oe) (List.mem_append.mpr (.inl hpin))
    obtain ⟨hl1, p, hp1, hp2⟩ := lf_lookup hl
    have hno := c3' p hp1
    rw [hp2] at hno
    have T : L2.XfC X.K E := by obtain ⟨_, _, _, _, _, _, _, _, _, _, _, _, q, _⟩ := c3; exact q
    rcases c4 with ⟨c4, _⟩ | ⟨dd, c4, c5⟩
    · have c4 : as = [] := c4
      subst c4
      cases hp1
    · obtain ⟨mA, hns, hr2⟩ := (show ObjOk X.prog X.w H1 s1.heap dd (.xd _) from I1.hok dd _ c5)
      obtain ⟨od, ho2, hl2⟩ := lookIn_ns hns
      obtain ⟨w, hw, rw'⟩ := RelO.some_of (v := l.v) (o := mA f) (by rw [← hl1]; exact hr2 f)
      have J : PySem.W.InstAt s1.heap t.a oe E (some od) := ⟨hget, hz.1.trans c2, by unfold PySem.W.notCls; rw [hd], by rw [hz.2, c4]; exact ho2⟩
      exact HandSPX.exc_get I1.kIn J T.ga T.gg T.exC (PySem.W.findObj_own T.hdC hno rfl (by rw [hl2, hw])) (handed_of rw') ⟨l.v, H1, I1.tok _, rw', qq⟩
end
end DL
set_option Elab.async false
set_option linter.all false
set_option maxRecDepth 100000
set_option maxHeartbeats 4000000
namespace DL
open PySem PySem.Spec PyProof.Rows L2

theorem own_slots {N : List Str} : ∀ {names : List (Str × NameKind)} {x : Str} {i : Nat}, (x, i) ∈ ownOf N names → N[i]? = some x
  | [], _, _, h => by cases h
  | (y, k) :: r, x, i, h => by
    cases k <;> simp only [ownOf] at h
    · split at h
      · rename_i j e
        rcases List.mem_cons.mp h with q | q
        · cases q; exact findIx_get e
        · exact own_slots q
      · exact own_slots h
    · split at h
      · rename_i j e
        rcases List.mem_cons.mp h with q | q
        · cases q; exact findIx_get e
        · exact own_slots q
      · exact own_slots h
    all_goals exact own_slots h
section
variable {C : SC} {X : Cx} {W : WX}
theorem callAny_ok (h : XOk C X W) {f : Expr} {args : List Expr} {kws : List Keyword} {pos : Pos} {fo : Ev → M D} {fs : Ev → M (List D)} (ho : ∀ o m p, f = .Attribute o m p → DE X W o fo) (ha : plainArgs args = true → DA X W args fs) (h0 : args = [] → fs = fun _ => M.pure []) {fin f1 : Ev → M D} (hin : ∀ g a ks q, args = [.Call g [a] ks q] → DE X W a fin) (h1f : ∀ b r, args = b :: r → DE X W b f1) :
    DE X W (.Call f args kws pos) (callAny C f args kws pos fo fs fin f1) := by
  unfold callAny
  split
  · split
    · rename_i x p hb
      unfold isSortSet at hb
      simp only [Bool.and_eq_true] at hb
      obtain ⟨⟨⟨b0, b1⟩, b2⟩, b3⟩ := hb
      split at b3
      · simp only [Bool.and_eq_true] at b3
        obtain ⟨⟨b4, b5⟩, b6⟩ := b3
        obtain rfl := eq_of_beq b1
        obtain rfl := eq_of_beq b4
        obtain ⟨g1, g2, _, _⟩ := isBi_of h b2
        obtain ⟨g3, g4, _, _⟩ := isBi_of h b5
        exact de_sortsetT (h.calm b0) h.u g1 g2 g3 g4 (hin _ _ _ _ rfl) (star_cons b6)
      · cases b3
    · split
      · rename_i x p _ hb
        unfold isLstRg at hb
        simp only [Bool.and_eq_true] at hb
        obtain ⟨⟨⟨b0, b1⟩, b2⟩, b3⟩ := hb
        split at b3
        · simp only [Bool.and_eq_true] at b3
          obtain ⟨⟨b4, b5⟩, b6⟩ := b3
          obtain rfl := eq_of_beq b1
          obtain rfl := eq_of_beq b4
          obtain ⟨g1, g2, _, _⟩ := isBi_of h b2
          obtain ⟨g3, g4, _, _⟩ := isBi_of h b5
          exact de_lstRg (h.calm b0) g1 g2 g3 g4 (hin _ _ _ _ rfl) (star_cons b6)
        · cases b3
      split
      · rename_i x p _ _ hi
        unfold ownIsi at hi
        simp only [Bool.and_eq_true] at hi
        obtain ⟨⟨⟨i0, i1⟩, i2⟩, i3⟩ := hi
        obtain rfl := eq_of_beq i1
        obtain ⟨g1, g2, _, _⟩ := isBi_of h i2
        split at i3
        · rename_i a y py _ _
          simp only [Bool.and_eq_true] at i3
          obtain ⟨⟨j1, j2⟩, j3⟩ := i3
          obtain ⟨g3, g4, _⟩ := glob_of h j2
          split at j3
          · rename_i ci ec
            obtain ⟨E, hm, ck, _⟩ := h.gl y _ ec
            have e2 : isiY C [a, .Name y py] f1 = isiO ci f1 := by unfold isiY ciG; simp only [ec]
            rw [e2]
            exact de_isiO ck g1 g2 g3 hm g4 (h1f _ _ rfl) j1
          · cases j3
        · cases i3
      split
      · rename_i x p _ _ _ hi
        unfold isIsi at hi
        simp only [Bool.and_eq_true] at hi
        obtain ⟨⟨⟨_, i1⟩, i2⟩, i3⟩ := hi
        obtain rfl := eq_of_beq i1
        split
        · rename_i hp; exact isiHot_ok h (eq_of_beq i3) i2 hp (ha hp)
        · exact de_no
      · split
        · rename_i hp; exact callD_ok h hp (ha hp) h0
        · exact de_no
  · split
    · rename_i hp
      simp only [Bool.and_eq_true, decide_eq_true_eq] at hp
      obtain ⟨⟨⟨h1, h2⟩, h3⟩, h4⟩ := hp
      exact methD_ok h (ho _ _ _ rfl) (ha h1) h0 h2 h1 h3 h4
    · exact de_no
  · exact de_no
theorem attrAny_ok (h : XOk C X W) {o : Expr} {f : Str} {pos : Pos} {fa : Ev → M D} (ha : DE X W o fa) : DE X W (.Attribute o f pos) (attrAny C o f fa) := by
  unfold attrAny
  split
  · rename_i hb
    split
    · exact de_attr ha hb
    · exact attrM_ok h hb ha
  · exact de_no
theorem subAny_ok {a i : Expr} {pos : Pos} {fa fi : Ev → M D} {fl fh : Ev → M (Option Int)} (hu : X.A.units + 65 < cLine) (ha : DE X W a fa) (hi : DE X W i fi) (hl : ∀ lo hi st p, i = .Slice lo hi st p → DO X W lo fl ∧ DO X W hi fh) : DE X W (.Subscript a i pos) (subAny i fa fi fl fh) := by
  unfold subAny
  split
  · split
    · obtain ⟨q1, q2⟩ := hl _ _ _ _ rfl; exact de_slice ha q1 q2
    · split
      · exact de_rev ha
      · exact de_no
    · exact de_no
  · rename_i hn
    refine de_ix hu ha hi (ix_plain ?_)
    cases i <;> first | rfl | (exfalso; exact hn _ _ _ _ rfl)
theorem cmpAny_ok (h : XOk C X W) {a : Expr} {ops : List CmpOp} {cs : List Expr} {pos : Pos} {fa fb fc : Ev → M D} (ha : DE X W a fa) (hb : ∀ b r, cs = b :: r → DE X W b fb) (hc : ∀ b c r, cs = b :: c :: r → DE X W c fc) : DE X W (.Compare a ops cs pos) (cmpAny ops cs fa fb fc) := by
  unfold cmpAny
  split
  · split
    · rename_i hm; exact de_cmp h.u ha (hb _ _ rfl) (mark_plain hm)
    · exact de_no
  · split
    · rename_i hm
      rw [Bool.and_eq_true] at hm
      exact de_cmp2 h.u ha (hb _ _ rfl) (hc _ _ _ rfl) (marks_plain hm.1 hm.2)
    · exact de_no
  · exact de_no
theorem cmpAny_okT (h : XOk C X W) {a : Expr} {ops : List CmpOp} {cs : List Expr} {pos : Pos} {fa fb fc : Ev → M D} (ha : DE X W a fa) (hb : ∀ b r, cs = b :: r → DE X W b fb) (hc : ∀ b c r, cs = b :: c :: r → DE X W c fc) : DT X W (.Compare a ops cs pos) (asTest (cmpAny ops cs fa fb fc)) := by
  unfold cmpAny
  split
  · split
    · rename_i hm; exact dt_cmp h.u ha (hb _ _ rfl) (mark_plain hm)
    · exact dt_no
  · split
    · rename_i hm
      rw [Bool.and_eq_true] at hm
      exact dt_cmp2 h.u ha (hb _ _ rfl) (hc _ _ _ rfl) (marks_plain hm.1 hm.2)
    · exact dt_no
  · exact dt_no
theorem compAny_ok (h : XOk C X W) {elt : Expr} {gens : List Comprehension} {scope : Scope} {pos : Pos} {fi fe : Ev → M D} {fs : Ev → M (List D)} {ft : Ev → M Bool}
    (hi : ∀ tg iter ifs k r, gens = ⟨tg, iter, ifs, k⟩ :: r → DE X W iter fi) (hs : ∀ tg iter ifs k r, gens = ⟨tg, iter, ifs, k⟩ :: r → ∀ g as ks p, iter = .Call g as ks p → plainArgs as = true → DA X W as fs)
    (ht : ∀ {X : Cx} tg iter ifs k r, gens = ⟨tg, iter, ifs, k⟩ :: r → XOk (C.blk scope) X WF → DTs X WF ifs ft) (he : ∀ {X : Cx}, XOk (C.blk scope) X WF → DE X WF elt fe)
    {fi1 : Ev → M D} {fs1 : Ev → M (List D)} {ft1 : Ev → M Bool} (hi1 : ∀ {X : Cx} g tg iter ifs k r, gens = g :: ⟨tg, iter, ifs, k⟩ :: r → XOk (C.blk scope) X WF → DE X WF iter fi1) (hs1 : ∀ {X : Cx} g tg iter ifs k r, gens = g :: ⟨tg, iter, ifs, k⟩ :: r → XOk (C.blk scope) X WF → ∀ g as ks p, iter = .Call g as ks p → plainArgs as = true → DA X WF as fs1)
    (ht1 : ∀ {X : Cx} g tg iter ifs k r, gens = g :: ⟨tg, iter, ifs, k⟩ :: r → XOk (C.blk scope) X WF → DTs X WF ifs ft1) :
    DE X W (.ListComp elt gens scope pos) (compAny C gens scope fi fs ft fi1 fs1 ft1 fe) := by
  unfold compAny
  split
  · rename_i tg iter ifs
    split
    · rename_i t et
      split
      · rename_i hc
        simp only [Bool.and_eq_true] at hc
        obtain ⟨⟨⟨h0, h1⟩, h2⟩, h3⟩ := hc
        have ok : BlkOk X.N X.env.scope scope (ownOf C.N scope.names) := by rw [h.N, h.sc]; exact blkOk_by h1
        have hb := fun s H Cc cl fp => h.blk h0 ok.kind s H Cc cl fp
        refine de_lc (h.calm h0) h.nd (srcM_ok h (hi _ _ _ _ _ rfl) (hs _ _ _ _ _ rfl)) ok (fun i hi => ?_) (fun s H Cc cl fp => tgOf_ok (hb s H Cc cl fp) et) (fun s H Cc cl fp => ht _ _ _ _ _ rfl (hb s H Cc cl fp)) (fun s H Cc cl fp => he (hb s H Cc cl fp)) (plain_fold h3)
        exact of_decide_eq_true (List.all_eq_true.mp h2 i hi)
      · exact de_no
    · exact de_no
  · rename_i tg iter ifs tg1 iter1 ifs1
    split
    · rename_i t t1 et et1
      split
      · rename_i hc
        simp only [Bool.and_eq_true] at hc
        obtain ⟨⟨⟨⟨⟨h0, h1⟩, h2⟩, h2'⟩, h3⟩, h3'⟩ := hc
        have ok : BlkOk X.N X.env.scope scope (ownOf C.N scope.names) := by rw [h.N, h.sc]; exact blkOk_by h1
        have hb := fun s H Cc cl fp => h.blk h0 ok.kind s H Cc cl fp
        refine de_lc2 (h.calm h0) h.nd (srcM_ok h (hi _ _ _ _ _ rfl) (hs _ _ _ _ _ rfl)) ok (fun i hi => of_decide_eq_true (List.all_eq_true.mp h2 i hi)) (fun i hi => of_decide_eq_true (List.all_eq_true.mp h2' i hi)) (fun s H Cc cl fp => tgOf_ok (hb s H Cc cl fp) et) (fun s H Cc cl fp => ht _ _ _ _ _ rfl (hb s H Cc cl fp))
          (fun s H Cc cl fp => srcM_ok (hb s H Cc cl fp) (hi1 _ _ _ _ _ _ rfl (hb s H Cc cl fp)) (hs1 _ _ _ _ _ _ rfl (hb s H Cc cl fp))) (fun s H Cc cl fp => tgOf_ok (hb s H Cc cl fp) et1) (fun s H Cc cl fp => ht1 _ _ _ _ _ _ rfl (hb s H Cc cl fp)) (fun s H Cc cl fp => he (hb s H Cc cl fp)) (plain_fold h3) (fun env x => plain_fold h3' x)
      · exact de_no
    · exact de_no
  · exact de_no
end
section
variable {C : SC} {X : Cx} {W : WX}
theorem blk_of (h : XOk C X W) (h0 : C.cool = true) {kx vx tg iter : Expr} {ifs : List Expr} {scope : Scope} {fi fk fv : Ev → M D} {fs : Ev → M (List D)} {ft : Ev → M Bool} {t : Tg} (et : tgOf (C.blk scope) tg = some t) (h1 : blkC C.N C.sc scope (ownOf C.N scope.names) = true) (h3 : noFold iter = true)
    (hi : DE X W iter fi) (hs : ∀ g as ks p, iter = .Call g as ks p → plainArgs as = true → DA X W as fs) (ht : ∀ {X : Cx}, XOk (C.blk scope) X WF → DTs X WF ifs ft) (hk : ∀ {X : Cx}, XOk (C.blk scope) X WF → DE X WF kx fk) (hv : ∀ {X : Cx}, XOk (C.blk scope) X WF → DE X WF vx fv) :
    Blk X tg iter ifs kx vx scope (ownOf C.N scope.names) (tI X.K X.mg W (srcM C tg iter fi fs)) (gD X.K X.mg t) (tT X.K X.mg WF ft) (tE X.K X.mg WF fk) (tE X.K X.mg WF fv) := by
  have ok : BlkOk X.N X.env.scope scope (ownOf C.N scope.names) := by rw [h.N, h.sc]; exact blkOk_by h1
  have hb := fun s H Cc cl fp => h.blk h0 ok.kind s H Cc cl fp
  exact ⟨srcM_ok h hi hs, ok, fun s H Cc cl fp => tgOf_ok (hb s H Cc cl fp) et, fun s H Cc cl fp => ht (hb s H Cc cl fp), fun s H Cc cl fp => hk (hb s H Cc cl fp), fun s H Cc cl fp => hv (hb s H Cc cl fp), plain_fold h3⟩
theorem dcompAny_ok (h : XOk C X W) {kx vx : Expr} {gens : List Comprehension} {scope : Scope} {pos : Pos} {fi fk fv : Ev → M D} {fs : Ev → M (List D)} {ft : Ev → M Bool}
    (hi : ∀ tg iter ifs k r, gens = ⟨tg, iter, ifs, k⟩ :: r → DE X W iter fi) (hs : ∀ tg iter ifs k r, gens = ⟨tg, iter, ifs, k⟩ :: r → ∀ g as ks p, iter = .Call g as ks p → plainArgs as = true → DA X W as fs)
    (ht : ∀ {X : Cx} tg iter ifs k r, gens = ⟨tg, iter, ifs, k⟩ :: r → XOk (C.blk scope) X WF → DTs X WF ifs ft) (hk : ∀ {X : Cx}, XOk (C.blk scope) X WF → DE X WF kx fk) (hv : ∀ {X : Cx}, XOk (C.blk scope) X WF → DE X WF vx fv) :
    DE X W (.DictComp kx vx gens scope pos) (dcompAny C gens scope fi fs ft fk fv) := by
  unfold dcompAny
  split
  · split
    · rename_i t et
      split
      · rename_i hc
        simp only [Bool.and_eq_true] at hc
        obtain ⟨⟨⟨h0, h1⟩, h2⟩, h3⟩ := hc
        exact de_dcn (h.calm h0) h.u h.nd (fun i hi => of_decide_eq_true (List.all_eq_true.mp h2 i hi)) (blk_of h h0 et h1 h3 (hi _ _ _ _ _ rfl) (hs _ _ _ _ _ rfl) (ht _ _ _ _ _ rfl) hk hv)
      · exact de_no
    · exact de_no
  · exact de_no
end
theorem de_disp1 {X : Cx} {W : WX} {pos : Pos} (hu : X.A.units + 65 < cLine) {ks : List (Option Expr)} {vs : List Expr} {fk fv : Ev → M D} (hc : compK ks vs = true) (hk : ∀ k r, ks = some k :: r → DE X W k fk) (hv : ∀ b r, vs = b :: r → DE X W b fv) : DE X W (.Dict ks vs pos) (dispN fk fv) := by
  unfold compK at hc
  split at hc
  · exact de_dispN hu (hk _ _ rfl) (hv _ _ rfl)
  · cases hc
theorem evs_all (C : SC) : ∀ es, evs C es = consAll (es.map (ev C))
  | [] => by rw [evs]; rfl
  | e :: es => by
    rw [evs, evs_all C es]
    rfl
mutual
theorem ev_ok : ∀ (e : Expr) {C : SC} {X : Cx} {W : WX}, XOk C X W → DE X W e (ev C e)
  | .Constant c k pos, C, X, W, h => by rw [ev]; exact constM_ok
  | .Name x pos, C, X, W, h => by rw [ev]; exact nameM_ok h
  | .BoolOp op vs pos, C, X, W, h => by
    cases op
    · simp only [ev]; exact evAnd_ok vs h
    · simp only [ev]; exact evOr_ok vs h
  | .BinOp a op b pos, C, X, W, h => by rw [ev]; exact de_bin (ev_ok a h) (ev_ok b h)
  | .UnaryOp op a pos, C, X, W, h => by
    cases op
    · simp only [ev]; exact de_no
    · simp only [ev]; exact de_not (ev_ok a h)
    · simp only [ev]; exact de_no
    · simp only [ev]; exact de_neg (ev_ok a h)
  | .IfExp c a b pos, C, X, W, h => by rw [ev]; exact de_if (evT_ok c h) (ev_ok a h) (ev_ok b h)
  | .Compare a ops cs pos, C, X, W, h => by
    rw [ev]
    exact cmpAny_ok h (ev_ok a h) (ev1_ok cs h) (ev2_ok cs h)
  | .Call f args kws pos, C, X, W, h => by
    rw [ev]
    exact callAny_ok h (evRecv_ok f h) (evs_ok args h) (fun e => by subst e; rw [evs]) (evIn_ok args h) (ev1_ok args h)
  | .Subscript a i pos, C, X, W, h => by
    rw [ev]
    exact subAny_ok h.u (ev_ok a h) (ev_ok i h) (evLH_ok i h)
  | .Tuple es k pos, C, X, W, h => by
    rw [ev]
    split
    · rename_i hp; exact de_tup (evs_ok es h hp)
    · exact de_no
  | .List es pos, C, X, W, h => by
    rw [ev]
    split
    · rename_i hp; exact de_lst (evs_ok es h hp)
    · exact de_no
  | .ListComp elt gens scope pos, C, X, W, h => by
    rw [ev]
    exact compAny_ok h (evGen_ok gens h) (evGenA_ok gens h) (fun {X} => evGenIf_ok gens) (fun {X} h => ev_ok elt h) (fun {X} => evGen1_ok gens) (fun {X} => evGenA1_ok gens) (fun {X} => evGenIf1_ok gens)
  | .NamedExpr .., _, _, _, _ => by simp only [ev]; exact de_no
  | .Lambda .., _, _, _, _ => by simp only [ev]; exact de_no
  | .Dict ks vs pos, C, X, W, h => by
    simp only [ev]
    split
    · exact de_nilDict
    · split
      · rename_i hc
        exact de_disp1 h.u hc (evK1_ok ks h) (ev1_ok vs h)
      · rw [evs_all]
        exact dispAny_ok (evE_ok vs h)
  | .Set .., _, _, _, _ => by simp only [ev]; exact de_no
  | .SetComp .., _, _, _, _ => by simp only [ev]; exact de_no
  | .DictComp kx vx gens scope pos, C, X, W, h => by
    simp only [ev]
    exact dcompAny_ok h (evGen_ok gens h) (evGenA_ok gens h) (fun {X} => evGenIf_ok gens) (fun {X} h => ev_ok kx h) (fun {X} h => ev_ok vx h)
  | .GeneratorExp .., _, _, _, _ => by simp only [ev]; exact de_no
  | .Await .., _, _, _, _ => by simp only [ev]; exact de_no
  | .Yield .., _, _, _, _ => by simp only [ev]; exact de_no
  | .YieldFrom .., _, _, _, _ => by simp only [ev]; exact de_no
  | .FormattedValue .., _, _, _, _ => by simp only [ev]; exact de_no
  | .JoinedStr .., _, _, _, _ => by simp only [ev]; exact de_no
  | .Attribute o f pos, C, X, W, h => by
    rw [ev]
    exact attrAny_ok h (ev_ok o h)
  | .Starred .., _, _, _, _ => by simp only [ev]; exact de_no
  | .Slice .., _, _, _, _ => by simp only [ev]; exact de_no
theorem evs_ok : ∀ (es : List Expr) {C : SC} {X : Cx} {W : WX}, XOk C X W → plainArgs es = true → DA X W es (evs C es)
  | [], C, X, W, h, hp => by rw [evs]; exact da_nil
  | e :: es, C, X, W, h, hp => by
    rw [evs]
    simp only [plainArgs, Bool.and_eq_true] at hp
    exact da_cons (ev_ok e h) (evs_ok es h hp.2) (star_cons hp.1)
theorem evE_ok : ∀ (es : List Expr) {C : SC} {X : Cx} {W : WX}, XOk C X W → ∀ e ∈ es, DE X W e (ev C e)
  | [], _, _, _, _, _, he => by cases he
  | e :: es, C, X, W, h, b, he => by
    rcases List.mem_cons.mp he with q | he
    · rw [q]; exact ev_ok e h
    · exact evE_ok es h b he
theorem evK1_ok : ∀ (ks : List (Option Expr)) {C : SC} {X : Cx} {W : WX}, XOk C X W → ∀ k r, ks = some k :: r → DE X W k (evK1 C ks)
  | [], _, _, _, _, _, _, e => nomatch e
  | none :: _, _, _, _, _, _, _, e => nomatch e
  | some k :: ks, C, X, W, h, k', r, q => by cases q; rw [evK1]; exact ev_ok k h
theorem ev1_ok : ∀ (es : List Expr) {C : SC} {X : Cx} {W : WX}, XOk C X W → ∀ b r, es = b :: r → DE X W b (ev1 C es)
  | [], _, _, _, _, _, _, e => nomatch e
  | e :: es, C, X, W, h, b, r, q => by cases q; rw [ev1]; exact ev_ok e h
theorem ev2_ok : ∀ (es : List Expr) {C : SC} {X : Cx} {W : WX}, XOk C X W → ∀ b c r, es = b :: c :: r → DE X W c (ev2 C es)
  | [], _, _, _, _, _, _, _, e => nomatch e
  | e :: es, C, X, W, h, b, c, r, q => by
    have q2 : es = c :: r := by cases q; rfl
    rw [ev2]
    exact ev1_ok es h c r q2
theorem evRecv_ok : ∀ (f : Expr) {C : SC} {X : Cx} {W : WX}, XOk C X W → ∀ o m p, f = .Attribute o m p → DE X W o (evRecv C f)
  | .Attribute o _ _, C, X, W, h, o', m, p, q => by cases q; rw [evRecv]; exact ev_ok o h
  | .Constant .., _, _, _, _, _, _, _, q => nomatch q
  | .Name .., _, _, _, _, _, _, _, q => nomatch q
  | .BoolOp .., _, _, _, _, _, _, _, q => nomatch q
  | .BinOp .., _, _, _, _, _, _, _, q => nomatch q
  | .UnaryOp .., _, _, _, _, _, _, _, q => nomatch q
  | .IfExp .., _, _, _, _, _, _, _, q => nomatch q
  | .Compare .., _, _, _, _, _, _, _, q => nomatch q
  | .Call .., _, _, _, _, _, _, _, q => nomatch q
  | .Subscript .., _, _, _, _, _, _, _, q => nomatch q
  | .Tuple .., _, _, _, _, _, _, _, q => nomatch q
  | .List .., _, _, _, _, _, _, _, q => nomatch q
  | .ListComp .., _, _, _, _, _, _, _, q => nomatch q
  | .NamedExpr .., _, _, _, _, _, _, _, q => nomatch q
  | .Lambda .., _, _, _, _, _, _, _, q => nomatch q
  | .Dict .., _, _, _, _, _, _, _, q => nomatch q
  | .Set .., _, _, _, _, _, _, _, q => nomatch q
  | .SetComp .., _, _, _, _, _, _, _, q => nomatch q
  | .DictComp .., _, _, _, _, _, _, _, q => nomatch q
  | .GeneratorExp .., _, _, _, _, _, _, _, q => nomatch q
  | .Await .., _, _, _, _, _, _, _, q => nomatch q
  | .Yield .., _, _, _, _, _, _, _, q => nomatch q
  | .YieldFrom .., _, _, _, _, _, _, _, q => nomatch q
  | .FormattedValue .., _, _, _, _, _, _, _, q => nomatch q
  | .JoinedStr .., _, _, _, _, _, _, _, q => nomatch q
  | .Starred .., _, _, _, _, _, _, _, q => nomatch q
  | .Slice .., _, _, _, _, _, _, _, q => nomatch q
theorem evArgs_ok : ∀ (f : Expr) {C : SC} {X : Cx} {W : WX}, XOk C X W → ∀ g as ks p, f = .Call g as ks p → plainArgs as = true → DA X W as (evArgs C f)
  | .Call _ as _ _, C, X, W, h, g, as', ks, p, q, hp => by cases q; rw [evArgs]; exact evs_ok as h hp
  | .Constant .., _, _, _, _, _, _, _, _, q, _ => nomatch q
  | .Name .., _, _, _, _, _, _, _, _, q, _ => nomatch q
  | .BoolOp .., _, _, _, _, _, _, _, _, q, _ => nomatch q
  | .BinOp .., _, _, _, _, _, _, _, _, q, _ => nomatch q
  | .UnaryOp .., _, _, _, _, _, _, _, _, q, _ => nomatch q
  | .IfExp .., _, _, _, _, _, _, _, _, q, _ => nomatch q
  | .Compare .., _, _, _, _, _, _, _, _, q, _ => nomatch q
  | .Attribute .., _, _, _, _, _, _, _, _, q, _ => nomatch q
  | .Subscript .., _, _, _, _, _, _, _, _, q, _ => nomatch q
  | .Tuple .., _, _, _, _, _, _, _, _, q, _ => nomatch q
  | .List .., _, _, _, _, _, _, _, _, q, _ => nomatch q
  | .ListComp .., _, _, _, _, _, _, _, _, q, _ => nomatch q
  | .NamedExpr .., _, _, _, _, _, _, _, _, q, _ => nomatch q
  | .Lambda .., _, _, _, _, _, _, _, _, q, _ => nomatch q
  | .Dict .., _, _, _, _, _, _, _, _, q, _ => nomatch q
  | .Set .., _, _, _, _, _, _, _, _, q, _ => nomatch q
  | .SetComp .., _, _, _, _, _, _, _, _, q, _ => nomatch q
  | .DictComp .., _, _, _, _, _, _, _, _, q, _ => nomatch q
  | .GeneratorExp .., _, _, _, _, _, _, _, _, q, _ => nomatch q
  | .Await .., _, _, _, _, _, _, _, _, q, _ => nomatch q
  | .Yield .., _, _, _, _, _, _, _, _, q, _ => nomatch q
  | .YieldFrom .., _, _, _, _, _, _, _, _, q, _ => nomatch q
  | .FormattedValue .., _, _, _, _, _, _, _, _, q, _ => nomatch q
  | .JoinedStr .., _, _, _, _, _, _, _, _, q, _ => nomatch q
  | .Starred .., _, _, _, _, _, _, _, _, q, _ => nomatch q
  | .Slice .., _, _, _, _, _, _, _, _, q, _ => nomatch q
theorem evFst_ok : ∀ (f : Expr) {C : SC} {X : Cx} {W : WX}, XOk C X W → ∀ g as ks p, f = .Call g as ks p → ∀ b r, as = b :: r → DE X W b (evFst C f)
  | .Call _ as _ _, C, X, W, h, g, as', ks, p, q, b, r, e => by cases q; rw [evFst]; exact ev1_ok as h b r e
  | .Constant .., _, _, _, _, _, _, _, _, q, _, _, _ => nomatch q
  | .Name .., _, _, _, _, _, _, _, _, q, _, _, _ => nomatch q
  | .BoolOp .., _, _, _, _, _, _, _, _, q, _, _, _ => nomatch q
  | .BinOp .., _, _, _, _, _, _, _, _, q, _, _, _ => nomatch q
  | .UnaryOp .., _, _, _, _, _, _, _, _, q, _, _, _ => nomatch q
  | .IfExp .., _, _, _, _, _, _, _, _, q, _, _, _ => nomatch q
  | .Compare .., _, _, _, _, _, _, _, _, q, _, _, _ => nomatch q
  | .Attribute .., _, _, _, _, _, _, _, _, q, _, _, _ => nomatch q
  | .Subscript .., _, _, _, _, _, _, _, _, q, _, _, _ => nomatch q
  | .Tuple .., _, _, _, _, _, _, _, _, q, _, _, _ => nomatch q
  | .List .., _, _, _, _, _, _, _, _, q, _, _, _ => nomatch q
  | .ListComp .., _, _, _, _, _, _, _, _, q, _, _, _ => nomatch q
  | .NamedExpr .., _, _, _, _, _, _, _, _, q, _, _, _ => nomatch q
  | .Lambda .., _, _, _, _, _, _, _, _, q, _, _, _ => nomatch q
  | .Dict .., _, _, _, _, _, _, _, _, q, _, _, _ => nomatch q
  | .Set .., _, _, _, _, _, _, _, _, q, _, _, _ => nomatch q
  | .SetComp .., _, _, _, _, _, _, _, _, q, _, _, _ => nomatch q
  | .DictComp .., _, _, _, _, _, _, _, _, q, _, _, _ => nomatch q
  | .GeneratorExp .., _, _, _, _, _, _, _, _, q, _, _, _ => nomatch q
  | .Await .., _, _, _, _, _, _, _, _, q, _, _, _ => nomatch q
  | .Yield .., _, _, _, _, _, _, _, _, q, _, _, _ => nomatch q
  | .YieldFrom .., _, _, _, _, _, _, _, _, q, _, _, _ => nomatch q
  | .FormattedValue .., _, _, _, _, _, _, _, _, q, _, _, _ => nomatch q
  | .JoinedStr .., _, _, _, _, _, _, _, _, q, _, _, _ => nomatch q
  | .Starred .., _, _, _, _, _, _, _, _, q, _, _, _ => nomatch q
  | .Slice .., _, _, _, _, _, _, _, _, q, _, _, _ => nomatch q
theorem evIn_ok : ∀ (es : List Expr) {C : SC} {X : Cx} {W : WX}, XOk C X W → ∀ g a ks q, es = [.Call g [a] ks q] → DE X W a (evIn C es)
  | [], _, _, _, _, _, _, _, _, e => nomatch e
  | e :: es, C, X, W, h, g, a, ks, q, z => by
    have z1 : e = .Call g [a] ks q := by cases z; rfl
    rw [evIn]
    exact evFst_ok e h g [a] ks q z1 a [] rfl
theorem evGen1_ok : ∀ (gens : List Comprehension) {C : SC} {X : Cx} g tg iter ifs k r, gens = g :: ⟨tg, iter, ifs, k⟩ :: r → XOk C X WF → DE X WF iter (evGen1 C gens)
  | [], _, _, _, _, _, _, _, _, q, _ => nomatch q
  | _ :: gs, C, X, g, tg, iter, ifs, k, r, q, h => by
    have q2 : gs = ⟨tg, iter, ifs, k⟩ :: r := by cases q; rfl
    rw [evGen1]
    exact evGen_ok gs h tg iter ifs k r q2
theorem evGenA1_ok : ∀ (gens : List Comprehension) {C : SC} {X : Cx} g tg iter ifs k r, gens = g :: ⟨tg, iter, ifs, k⟩ :: r → XOk C X WF → ∀ g as ks p, iter = .Call g as ks p → plainArgs as = true → DA X WF as (evGenA1 C gens)
  | [], _, _, _, _, _, _, _, _, q, _ => nomatch q
  | _ :: gs, C, X, g, tg, iter, ifs, k, r, q, h => by
    have q2 : gs = ⟨tg, iter, ifs, k⟩ :: r := by cases q; rfl
    rw [evGenA1]
    exact evGenA_ok gs h tg iter ifs k r q2
theorem evGenIf1_ok : ∀ (gens : List Comprehension) {C : SC} {X : Cx} g tg iter ifs k r, gens = g :: ⟨tg, iter, ifs, k⟩ :: r → XOk C X WF → DTs X WF ifs (evGenIf1 C gens)
  | [], _, _, _, _, _, _, _, _, q, _ => nomatch q
  | _ :: gs, C, X, g, tg, iter, ifs, k, r, q, h => by
    have q2 : gs = ⟨tg, iter, ifs, k⟩ :: r := by cases q; rfl
    rw [evGenIf1]
    exact evGenIf_ok gs tg iter ifs k r q2 h
theorem evLH_ok : ∀ (i : Expr) {C : SC} {X : Cx} {W : WX}, XOk C X W → ∀ lo hi st p, i = .Slice lo hi st p → DO X W lo (evLo C i) ∧ DO X W hi (evHi C i)
  | .Slice lo hi _ _, C, X, W, h, lo', hi', st, p, q => by cases q; rw [evLo, evHi]; exact ⟨evO_ok lo h, evO_ok hi h⟩
  | .Constant .., _, _, _, _, _, _, _, _, q => nomatch q
  | .Name .., _, _, _, _, _, _, _, _, q => nomatch q
  | .BoolOp .., _, _, _, _, _, _, _, _, q => nomatch q
  | .BinOp .., _, _, _, _, _, _, _, _, q => nomatch q
  | .UnaryOp .., _, _, _, _, _, _, _, _, q => nomatch q
  | .IfExp .., _, _, _, _, _, _, _, _, q => nomatch q
  | .Compare .., _, _, _, _, _, _, _, _, q => nomatch q
  | .Attribute .., _, _, _, _, _, _, _, _, q => nomatch q
  | .Subscript .., _, _, _, _, _, _, _, _, q => nomatch q
  | .Tuple .., _, _, _, _, _, _, _, _, q => nomatch q
  | .List .., _, _, _, _, _, _, _, _, q => nomatch q
  | .ListComp .., _, _, _, _, _, _, _, _, q => nomatch q
  | .NamedExpr .., _, _, _, _, _, _, _, _, q => nomatch q
  | .Lambda .., _, _, _, _, _, _, _, _, q => nomatch q
  | .Dict .., _, _, _, _, _, _, _, _, q => nomatch q
  | .Set .., _, _, _, _, _, _, _, _, q => nomatch q
  | .SetComp .., _, _, _, _, _, _, _, _, q => nomatch q
  | .DictComp .., _, _, _, _, _, _, _, _, q => nomatch q
  | .GeneratorExp .., _, _, _, _, _, _, _, _, q => nomatch q
  | .Await .., _, _, _, _, _, _, _, _, q => nomatch q
  | .Yield .., _, _, _, _, _, _, _, _, q => nomatch q
  | .YieldFrom .., _, _, _, _, _, _, _, _, q => nomatch q
  | .FormattedValue .., _, _, _, _, _, _, _, _, q => nomatch q
  | .JoinedStr .., _, _, _, _, _, _, _, _, q => nomatch q
  | .Starred .., _, _, _, _, _, _, _, _, q => nomatch q
  | .Call .., _, _, _, _, _, _, _, _, q => nomatch q
theorem evGen_ok : ∀ (gens : List Comprehension) {C : SC} {X : Cx} {W : WX}, XOk C X W → ∀ tg iter ifs k r, gens = ⟨tg, iter, ifs, k⟩ :: r → DE X W iter (evGen C gens)
  | [], _, _, _, _, _, _, _, _, _, q => nomatch q
  | ⟨_, iter, _, _⟩ :: _, C, X, W, h, tg, iter', ifs, k, r, q => by cases q; rw [evGen]; exact ev_ok iter h
theorem evGenA_ok : ∀ (gens : List Comprehension) {C : SC} {X : Cx} {W : WX}, XOk C X W → ∀ tg iter ifs k r, gens = ⟨tg, iter, ifs, k⟩ :: r → ∀ g as ks p, iter = .Call g as ks p → plainArgs as = true → DA X W as (evGenA C gens)
  | [], _, _, _, _, _, _, _, _, _, q => nomatch q
  | ⟨_, iter, _, _⟩ :: _, C, X, W, h, tg, iter', ifs, k, r, q => by cases q; rw [evGenA]; exact evArgs_ok iter h
theorem evGenIf_ok : ∀ (gens : List Comprehension) {C : SC} {X : Cx} {W : WX} tg iter ifs k r, gens = ⟨tg, iter, ifs, k⟩ :: r → XOk C X W → DTs X W ifs (evGenIf C gens)
  | [], _, _, _, _, _, _, _, _, q, _ => nomatch q
  | ⟨_, _, ifs, _⟩ :: _, C, X, W, tg, iter', ifs', k, r, q, h => by cases q; rw [evGenIf]; exact evIfs_ok ifs h
theorem evAnd_ok : ∀ (es : List Expr) {C : SC} {X : Cx} {W : WX} {pos : Pos}, XOk C X W → DE X W (.BoolOp .And es pos) (evAnd C es)
  | [], C, X, W, pos, h => by rw [evAnd]; exact de_no
  | [e], C, X, W, pos, h => by rw [evAnd]; exact pe_one (ev_ok e h)
  | e :: e2 :: es, C, X, W, pos, h => by
    rw [evAnd]
    exact de_and (ev_ok e h) (evAnd_ok (e2 :: es) h)
theorem evOr_ok : ∀ (es : List Expr) {C : SC} {X : Cx} {W : WX} {pos : Pos}, XOk C X W → DE X W (.BoolOp .Or es pos) (evOr C es)
  | [], C, X, W, pos, h => by rw [evOr]; exact de_no
  | [e], C, X, W, pos, h => by rw [evOr]; exact pe_one (ev_ok e h)
  | e :: e2 :: es, C, X, W, pos, h => by
    rw [evOr]
    exact de_or (ev_ok e h) (evOr_ok (e2 :: es) h)
theorem evO_ok : ∀ (o : Option Expr) {C : SC} {X : Cx} {W : WX}, XOk C X W → DO X W o (evO C o)
  | none, C, X, W, h => by rw [evO]; exact do_none
  | some e, C, X, W, h => by rw [evO]; exact do_some (ev_ok e h)
theorem evT_ok : ∀ (e : Expr) {C : SC} {X : Cx} {W : WX}, XOk C X W → DT X W e (evT C e)
  | .UnaryOp op a pos, C, X, W, h => by
    cases op
    · simp only [evT]; exact dt_no
    · simp only [evT]; exact dt_not (evT_ok a h)
    · simp only [evT]; exact dt_no
    · simp only [evT]; exact dt_truth (de_neg (ev_ok a h)) (fun _ => rfl)
  | .BoolOp op vs pos, C, X, W, h => by
    cases op
    · simp only [evT]; exact (evTAnd_ok vs h).pt
    · simp only [evT]; exact (evTOr_ok vs h).pt
  | .Compare a ops cs pos, C, X, W, h => by
    rw [evT]
    exact cmpAny_okT h (ev_ok a h) (ev1_ok cs h) (ev2_ok cs h)
  | .Name x pos, C, X, W, h => by rw [evT]; exact dt_truth (nameM_ok h) (fun _ => rfl)
  | .Call f args kws pos, C, X, W, h => by
    rw [evT]
    exact dt_truth (callAny_ok h (evRecv_ok f h) (evs_ok args h) (fun e => by subst e; rw [evs]) (evIn_ok args h) (ev1_ok args h)) (fun _ => rfl)
  | .Subscript a i pos, C, X, W, h => by
    rw [evT]
    exact dt_truth (subAny_ok h.u (ev_ok a h) (ev_ok i h) (evLH_ok i h)) (fun _ => rfl)
  | .Constant c k pos, C, X, W, h => by rw [evT]; exact dt_truth constM_ok (fun _ => rfl)
  | .IfExp .., _, _, _, _ => by simp only [evT]; exact dt_no
  | .BinOp .., _, _, _, _ => by simp only [evT]; exact dt_no
  | .Tuple .., _, _, _, _ => by simp only [evT]; exact dt_no
  | .List .., _, _, _, _ => by simp only [evT]; exact dt_no
  | .ListComp .., _, _, _, _ => by simp only [evT]; exact dt_no
  | .NamedExpr .., _, _, _, _ => by simp only [evT]; exact dt_no
  | .Lambda .., _, _, _, _ => by simp only [evT]; exact dt_no
  | .Dict .., _, _, _, _ => by simp only [evT]; exact dt_no
  | .Set .., _, _, _, _ => by simp only [evT]; exact dt_no
  | .SetComp .., _, _, _, _ => by simp only [evT]; exact dt_no
  | .DictComp .., _, _, _, _ => by simp only [evT]; exact dt_no
  | .GeneratorExp .., _, _, _, _ => by simp only [evT]; exact dt_no
  | .Await .., _, _, _, _ => by simp only [evT]; exact dt_no
  | .Yield .., _, _, _, _ => by simp only [evT]; exact dt_no
  | .YieldFrom .., _, _, _, _ => by simp only [evT]; exact dt_no
  | .FormattedValue .., _, _, _, _ => by simp only [evT]; exact dt_no
  | .JoinedStr .., _, _, _, _ => by simp only [evT]; exact dt_no
  | .Attribute o f pos, C, X, W, h => by rw [evT]; exact dt_truth (attrAny_ok h (ev_ok o h)) (fun _ => rfl)
  | .Starred .., _, _, _, _ => by simp only [evT]; exact dt_no
  | .Slice .., _, _, _, _ => by simp only [evT]; exact dt_no
theorem evTAnd_ok : ∀ (es : List Expr) {C : SC} {X : Cx} {W : WX} {pos : Pos}, XOk C X W → DW X W (.BoolOp .And es pos) (evTAnd C es)
  | [], C, X, W, pos, h => by rw [evTAnd]; exact ⟨fun _ _ _ _ _ _ _ ⟨_, _, _, _, _, q⟩ => q.elim⟩
  | [e], C, X, W, pos, h => by rw [evTAnd]; exact pw_and1 (evT_ok e h)
  | e :: e2 :: es, C, X, W, pos, h => by
    rw [evTAnd]
    exact dw_and (evT_ok e h) (evTAnd_ok (e2 :: es) h)
theorem evTOr_ok : ∀ (es : List Expr) {C : SC} {X : Cx} {W : WX} {pos : Pos}, XOk C X W → DW X W (.BoolOp .Or es pos) (evTOr C es)
  | [], C, X, W, pos, h => by rw [evTOr]; exact ⟨fun _ _ _ _ _ _ _ ⟨_, _, _, _, _, q⟩ => q.elim⟩
  | [e], C, X, W, pos, h => by rw [evTOr]; exact pw_or1 (evT_ok e h)
  | e :: e2 :: es, C, X, W, pos, h => by
    rw [evTOr]
    exact dw_or (evT_ok e h) (evTOr_ok (e2 :: es) h)
theorem evIfs_ok : ∀ (es : List Expr) {C : SC} {X : Cx} {W : WX}, XOk C X W → DTs X W es (evIfs C es)
  | [], C, X, W, h => by rw [evIfs]; exact ⟨fun pins s σ H Q I ⟨m, ev, hs, rs, hr, q⟩ => pts_nil.run pins s σ H Q I (q.pure hr)⟩
  | [e], C, X, W, h => by rw [evIfs]; exact pts_one (evT_ok e h)
  | _ :: _ :: _, C, X, W, h => by rw [evIfs]; exact ⟨fun _ _ _ _ _ _ ⟨_, _, _, _, _, q⟩ => q.elim⟩
end
end DL
set_option Elab.async false
set_option linter.all false
set_option maxRecDepth 100000
set_option maxHeartbeats 4000000
namespace DL
open PySem PySem.Spec PyProof.Rows L2

/-! ## statements -/
def noComp : Expr → Bool
  | .ListComp .. => false
  | .SetComp .. => false
  | .DictComp .. => false
  | _ => true
theorem swaps_no {e : Expr} {t : Option Expr} {l : Nat} {env : Env} (h : noComp e = true) : swapsWith e t l env = pure false := by
  cases e <;> first | rfl | cases h
def stuckS : Ev → S := fun _ _ => none
/-- two or three local names of one line, from as many values that are not all constants -/
def parOk (C : SC) (ts vs : List Expr) : Bool := match ts, vs with
  | [.Name x px, .Name y py], [a, b] => decide (x ≠ y) && decide (C.sc.names.lookup x = some .local) && decide (C.sc.names.lookup y = some .local) && (py.line == px.line) && notStar a && notStar b && !([a, b].all (foldedForSure 8)) && !([a, b].all (constantsAlone 8))
  | [.Name x px, .Name y py, .Name z pz], [a, b, c] => decide (x ≠ y) && decide (x ≠ z) && decide (y ≠ z) && decide (C.sc.names.lookup x = some .local) && decide (C.sc.names.lookup y = some .local) && decide (C.sc.names.lookup z = some .local) && (py.line == px.line) && (pz.line == px.line) && notStar a && notStar b && notStar c && !([a, b, c].all (foldedForSure 8)) && !([a, b, c].all (constantsAlone 8))
  | _, _ => false
/-- no road of its own for these targets -/
def notLoc (C : SC) : Expr → Bool
  | .Name x _ => (match C.sc.names.lookup x with
    | some .local => false
    | _ => true)
  | _ => true
def plainTup (C : SC) (ts : List Expr) : Expr → Bool
  | .Tuple vs _ _ => !(ts.length == 2 || ts.length == 3) || vs.length != ts.length || vs.all (foldedForSure 8) || (ts.any (notLoc C) && plainArgs vs)
  | _ => true
noncomputable def asgAny (C : SC) (targets : List Expr) (value : Expr) (fv fo fi : Ev → M D) : Ev → S := match targets with
  | [.Name x p] => (match slotOf C x with
    | some i => asgS (.one i) fv
    | none => stuckS)
  | [.Tuple ts k tp] => (match tgOf C (.Tuple ts k tp) with
    | some t => if noComp value = true then (match value with
      | .Tuple vs _ _ => if plainTup C ts value = true then asgS t fv else if (C.cool && parOk C ts vs) = true then asgS t fv else stuckS
      | _ => asgS t fv) else stuckS
    | none => stuckS)
  | [.Subscript o i p] => if (noComp value && plainIx i) = true then setS fv fo fi else stuckS
  | [.Attribute o f p] => setFS (okG C.G f) f fv fo
  | _ => stuckS
noncomputable def evTO (C : SC) : List Expr → Ev → M D
  | [.Subscript o _ _] => ev C o
  | [.Attribute o _ _] => ev C o
  | _ => fun _ => M.stuck
noncomputable def evTI (C : SC) : List Expr → Ev → M D
  | [.Subscript _ i _] => ev C i
  | _ => fun _ => M.stuck
noncomputable def augAny (C : SC) (tg : Expr) (op : Operator) (fv : Ev → M D) : Ev → S := match tg with
  | .Name x _ => (match slotOf C x with
    | some i => augS op i fv
    | none => stuckS)
  | _ => stuckS
noncomputable def forAny (C : SC) (tg iter : Expr) (orelse : List Stmt) (g : Ev → S) : Ev → S := match orelse with
  | [] => (match tgOf C tg with
    | some t => if (C.cool && noFold iter) = true then loopS t (srcM C tg iter (ev C iter) (evArgs C iter)) g else stuckS
    | none => stuckS)
  | _ => stuckS
/-! ## errors -/
def D.lf? : D → Option Lf
  | .non => some .non
  | .bl b => some (.bl b)
  | .int i => some (.int i)
  | .str x => some (.str x)
  | _ => none
def raise1 (x f : Str) : D → Ev → S := fun d e hs => match d.lf? with
  | some l => some (.exc ⟨x, [(f, l)]⟩ e, hs)
  | none => none
def raise0 (x : Str) : Ev → S := fun e hs => some (.exc ⟨x, []⟩ e, hs)
def raiseAny (C : SC) (f1 : Ev → M D) : Option Expr → Option Expr → Ev → S
  | some (.Call (.Name x _) args [] _), none => if (C.cool && isGlobal C x) = true then (match C.G x, args with
    | some (.err none), [] => raise0 x
    | some (.err (some f)), [a] => if notStar a = true then exprS f1 (raise1 x f) else stuckS
    | _, _ => stuckS) else stuckS
  | _, _ => stuckS
open Classical in
noncomputable def tryK (run : Tk → Option (Fl × Hs)) : Option (Fl × Hs) := if h : ∃ r, ∀ t, run t = some r then some (Classical.choose h) else none
def dropV (o : Option Nat) (e : Ev) : Ev := match o with
  | none => e
  | some i => e.set i none
def putV (o : Option Nat) (d : D) (e : Ev) : Ev := match o with
  | none => e
  | some i => e.set i (some d)
def stripF (o : Option Nat) : Fl → Option Fl
  | .nx e => some (.nx (dropV o e))
  | .ret d => some (.ret d)
  | .bk e => some (.bk (dropV o e))
  | .ct e => some (.ct (dropV o e))
  | .exc .. => none
noncomputable def suiteK (o : Option Nat) (x : Ex) (g : Tk → Ev → S) : Ev → S := fun e hs => tryK fun t => match g t (putV o (.exv t x.cls x.arg) e) hs with
  | some (r, h) => (stripF o r).map (·, h)
  | none => none
def hitC (C : SC) (c y : Str) : Option Bool := match C.G y with
  | some .bi => if y = "ValueError" ∨ y = "Exception" then some true else none
  | _ => hitE C c y
def SC.at (C : SC) (t : Tk) : SC := { C with hot := some t }
def okSlot (C : SC) : Option Str → Option (Option Nat)
  | none => some none
  | some n => if C.sc.names.lookup n = some .local then (findIx C.N n).map some else none
def clsOk (C : SC) (y : Str) : Bool := isGlobal C y && (match C.G y with
  | some (.err _) => true
  | some .base => true
  | some .bi => y == ("ValueError" : Str) || y == ("Exception" : Str)
  | _ => false)
def hdOk (C : SC) : ExceptHandler → Bool
  | .ExceptHandler (some (.Name y _)) nm (_ :: _) _ => clsOk C y && (okSlot C nm).isSome
  | _ => false
/-- a clause, as the mirrors have it -/
noncomputable def hdM (b : Bool) (o : Option Nat) (x : Ex) (g : Tk → Ev → S) (rest : Ev → S) : Ev → S := match b with
  | true => suiteK o x g
  | false => rest
noncomputable def hdAny (C : SC) (x : Ex) (ty : Option Expr) (nm : Option Str) (g : Tk → Ev → S) (rest : Ev → S) : Ev → S := match ty, okSlot C nm with
  | some (.Name y _), some o => (match hitC C x.cls y with
    | some b => hdM b o x g rest
    | none => stuckS)
  | _, _ => stuckS
def tryS (g : Ev → S) (k : Ex → Ev → S) : Ev → S := fun e hs => match g e hs with
  | some (.exc x e1, h1) => k x e1 h1
  | r => r
mutual
noncomputable def evS (C : SC) : Stmt → Ev → S
  | .Expr v pos => if noComp v = true then dropS (ev C v) else stuckS
  | .Assign targets value pos => asgAny C targets value (ev C value) (evTO C targets) (evTI C targets)
  | .AugAssign tg op v pos => augAny C tg op (ev C v)
  | .For tg iter body orelse pos => forAny C tg iter orelse (evB C body)
  | .While t body orelse pos => (match orelse with
    | [] => whileS (evT C t) (evB C body)
    | _ :: _ => stuckS)
  | .If t a b pos => ifS (evT C t) (evB C a) (evB C b)
  | .Return v pos => (match v with
    | some e => retS (ev C e)
    | none => fun _ hs => some (.ret .non, hs))
  | .Raise e c _ => raiseAny C (match e with
    | some x => evFst C x
    | none => fun _ => M.stuck) e c
  | .Try body hds orelse fin _ => (match orelse, fin with
    | [], [] => if (C.cool && !C.inb && !hds.isEmpty && hds.all (hdOk C)) = true then tryS (evB C body) (evH C hds) else stuckS
    | _, _ => stuckS)
  | .Pass _ => nextS
  | .Break _ => fun e hs => some (.bk e, hs)
  | .Continue _ => fun e hs => some (.ct e, hs)
  | _ => stuckS
noncomputable def evB (C : SC) : List Stmt → Ev → S
  | [] => nextS
  | s :: r => seqS (evS C s) (evB C r)
noncomputable def evH (C : SC) : List ExceptHandler → Ex → Ev → S
  | [] => fun x e hs => some (.exc x e, hs)
  | .ExceptHandler ty nm suite _ :: r => fun x => hdAny C x ty nm (fun t => evB (C.at t) suite) (evH C r x)
end
section
variable {C : SC} {X : Cx} {W : WX}
theorem swapped_not {ts : List Expr} {k : Nat} {p : Pos} {e : Expr} {env : Env} (h : ∀ vs k p, e ≠ .Tuple vs k p) : swappedStores [.Tuple ts k p] e env = pure none := by
  cases e <;> first | rfl | exact absurd rfl (h _ _ _)
theorem blk_fn {env : Env} (hk : env.scope.kind = .function) : env.blockKind = .function := by unfold Env.blockKind; rw [hk]; rfl
theorem any_star : ∀ {vs : List Expr}, plainArgs vs = true → (vs.any fun | .Starred .. => true | _ => false) = false
  | [], _ => rfl
  | e :: es, h => by
    simp only [plainArgs, Bool.and_eq_true] at h
    rw [List.any_cons, any_star h.2]
    cases e <;> first | rfl | (simp [notStar] at h)
def nm (env : Env) (l : Nat) : Expr → Option Str
  | .Name id pos => if env.kindOf id == some .local && pos.line == l then some id else none
  | _ => none
theorem nm_yes {env : Env} {l : Nat} {x : Str} {p : Pos} (hx : env.scope.names.lookup x = some .local) (hl : (p.line == l) = true) : nm env l (.Name x p) = some x := by
  have kx : env.kindOf x = some .local := hx
  unfold nm
  simp only [kx, hl]
  rfl
theorem swapped_plain {ts vs : List Expr} {k k2 : Nat} {p p2 : Pos} {env : Env} (hk : env.scope.kind = .function) (hsc : env.scope = C.sc) (h : plainTup C ts (.Tuple vs k2 p2) = true) : swappedStores [.Tuple ts k p] (.Tuple vs k2 p2) env = pure none := by
  unfold plainTup at h
  simp only [Bool.or_eq_true] at h
  unfold swappedStores
  simp only
  generalize hg : List.filterMap _ ts = ns
  split
  · rfl
  · rename_i h1
    split
    · rfl
    · split
      · rfl
      · rename_i h3
        rcases h with ((h | h) | h) | h
        · exact absurd (by rw [h, Bool.true_or, Bool.true_or]) h1
        · exact absurd (by rw [h, Bool.or_true, Bool.true_or]) h1
        · rw [if_pos h]
        · rw [Bool.and_eq_true] at h
          obtain ⟨t, ht, hn⟩ := List.any_eq_true.mp h.1
          have lt : ns.length < ts.length := by
            rw [← hg, List.length_filterMap_lt_length_iff_exists]
            refine ⟨t, ht, ?_⟩
            cases t <;> try rfl
            rename_i x px
            have kx : (env.kindOf x == some .local) = false := by
              show (env.scope.names.lookup x == some .local) = false
              rw [hsc]
              unfold notLoc at hn
              simp only at hn
              cases e : C.sc.names.lookup x with
              | none => rfl
              | some q => rw [e] at hn; cases q <;> first | rfl | cases hn
            simp only [kx, Bool.false_and]
            rfl
          exfalso
          apply h3
          have : (ns.length != ts.length) = true := by simpa using Nat.ne_of_lt lt
          rw [this, Bool.true_or]
/-- names of one line, all of them locals, no two alike -/
theorem swapped_names {ts vs : List Expr} {p p2 : Pos} {k k2 : Nat} {env : Env} {names : List Str} (hk : env.scope.kind = .function) (h0 : (ts.length == 2 || ts.length == 3) = true) (hl : vs.length = ts.length) (hp : plainArgs vs = true)
    (hn : (ts.filterMap (nm env ((ts.head?.map (·.pos.line)).getD 0))) = names) (h3 : (names.length != ts.length || names.eraseDups.length != names.length) = false) (h1 : vs.all (foldedForSure 8) = false) (h2 : vs.all (constantsAlone 8) = false) :
    swappedStores [.Tuple ts k p] (.Tuple vs k2 p2) env = pure (some names) := by
  unfold swappedStores
  simp only
  generalize hg : List.filterMap _ ts = ns
  have e : ns = names := by rw [← hn, ← hg]; rfl
  subst e
  split
  · rename_i h
    rw [h0, blk_fn hk, hl] at h
    simp at h
  · split
    · rename_i h
      exact absurd (h.symm.trans (any_star hp)) (by decide)
    · split
      · rename_i h
        rw [h3] at h; cases h
      · rw [if_neg (by rw [h1]; decide), if_neg (by rw [h2]; decide)]
theorem swapped_two {x y : Str} {px py p p2 : Pos} {a b : Expr} {k k2 : Nat} {env : Env} (hk : env.scope.kind = .function) (hxy : x ≠ y) (hx : env.scope.names.lookup x = some .local) (hy : env.scope.names.lookup y = some .local) (hl : (py.line == px.line) = true)
    (ha : plainArgs [a, b] = true) (h1 : [a, b].all (foldedForSure 8) = false) (h2 : [a, b].all (constantsAlone 8) = false) :
    swappedStores [.Tuple [.Name x px, .Name y py] k p] (.Tuple [a, b] k2 p2) env = pure (some [x, y]) := by
  refine swapped_names hk rfl rfl ha ?_ ?_ h1 h2
  · exact (List.filterMap_cons_some (b := x) (nm_yes hx (beq_self_eq_true _))).trans (congrArg (x :: ·) ((List.filterMap_cons_some (b := y) (nm_yes hy hl)).trans rfl))
  · have : (y == x) = false := by simpa using fun e => hxy e.symm
    simp [List.eraseDups_cons, this]
theorem swapped_three {x y z : Str} {px py pz p p2 : Pos} {a b c : Expr} {k k2 : Nat} {env : Env} (hk : env.scope.kind = .function) (hxy : x ≠ y) (hxz : x ≠ z) (hyz : y ≠ z) (hx : env.scope.names.lookup x = some .local) (hy : env.scope.names.lookup y = some .local) (hz : env.scope.names.lookup z = some .local)
    (hl : (py.line == px.line) = true) (hl2 : (pz.line == px.line) = true) (ha : plainArgs [a, b, c] = true) (h1 : [a, b, c].all (foldedForSure 8) = false) (h2 : [a, b, c].all (constantsAlone 8) = false) :
    swappedStores [.Tuple [.Name x px, .Name y py, .Name z pz] k p] (.Tuple [a, b, c] k2 p2) env = pure (some [x, y, z]) := by
  refine swapped_names hk rfl rfl ha ?_ ?_ h1 h2
  · exact (List.filterMap_cons_some (b := x) (nm_yes hx (beq_self_eq_true _))).trans (congrArg (x :: ·) ((List.filterMap_cons_some (b := y) (nm_yes hy hl)).trans (congrArg (y :: ·) ((List.filterMap_cons_some (b := z) (nm_yes hz hl2)).trans rfl))))
  · have e1 : (y == x) = false := by simpa using fun e => hxy e.symm
    have e2 : (z == x) = false := by simpa using fun e => hxz e.symm
    have e3 : (z == y) = false := by simpa using fun e => hyz e.symm
    simp [List.eraseDups_cons, e1, e2, e3]

/-! ## the little machine is right: statements -/
theorem ds_stuck {s : Stmt} : DS X W s stuckS := ds_no
theorem asg_stuck {s : Stmt} {t : Tg} : DS X W s (asgS t fun _ => M.stuck) := ds_no
theorem slot_ne {N : List Str} {x y : Str} {i j : Nat} (h : x ≠ y) (hi : N[i]? = some x) (hj : N[j]? = some y) : i ≠ j := fun e => h (by subst e; rw [hi] at hj; exact Option.some.inj hj)
theorem tA_mono {f : Ev → M (List D)} {σ : L2.St} {H : Hp} {Q Q' : List V → Hp → Prop} (h : tA X.K X.mg W f σ H Q) (hq : ∀ vs H1, Q vs H1 → Q' vs H1) : tA X.K X.mg W f σ H Q' := by
  obtain ⟨m, ev, hs, rs, hr, q⟩ := h
  exact ⟨m, ev, hs, rs, hr, q.mono fun ds m1 hs1 H1 e1 hr1 q1 vs rvs => hq vs H1 (q1 vs rvs)⟩
theorem tupM_some {f : Ev → M (List D)} {is : List Nat} {σ : L2.St} {H : Hp} {D : Ends} (h : tS X.K X.mg W (asgS (.many is) (tupM f)) D σ H) :
    tA X.K X.mg W f σ H fun vs H1 => is.length = vs.length ∧ D.nx (setsV σ is vs) H1 := by
  obtain ⟨m, ev, hs, rs, hr, q⟩ := h
  refine ⟨m, ev, hs, rs, hr, (q.expr rs).bind.mono fun ds m1 hs1 H1 e1 hr1 q1 vs rvs => ?_⟩
  split at q1
  · have q2 := q1.pure hr1
    by_cases hl : is.length = ds.length
    · simp only [asg, if_pos hl] at q2
      exact ⟨by rw [← rvs.length]; exact hl, q2 m1 H1 _ .refl hr1 ((rs.mono e1).sets rvs)⟩
    · simp only [asg, if_neg hl] at q2
      exact q2.elim
  · exact q1.elim
theorem par_ok (h : XOk C X W) (hcl : C.cool = true) {ts vs : List Expr} {k k2 : Nat} {tp p2 pos : Pos} {t : Tg} {fs : Ev → M (List D)} (ht : tgOf C (.Tuple ts k tp) = some t) (hp : parOk C ts vs = true) (ha : plainArgs vs = true → DA X W vs fs) : DS X W (.Assign [.Tuple ts k tp] (.Tuple vs k2 p2) pos) (asgS t (tupM fs)) := by
  unfold parOk at hp
  split at hp
  · rename_i x px y py a b
    simp only [Bool.and_eq_true, decide_eq_true_eq, Bool.not_eq_true'] at hp
    obtain ⟨⟨⟨⟨⟨⟨⟨h1, h2⟩, h3⟩, h4⟩, h5⟩, h6⟩, h7⟩, h8⟩ := hp
    have hpl : plainArgs [a, b] = true := by simp [plainArgs, h5, h6]
    simp only [tgOf] at ht
    rw [if_pos (by rw [hcl]; rfl)] at ht
    obtain ⟨is, ei, rfl⟩ := Option.map_eq_some_iff.mp ht
    cases e1 : slotOf C x with
    | none => simp [slotsOf, e1] at ei
    | some i =>
      cases e2 : slotOf C y with
      | none => simp [slotsOf, e1, e2] at ei
      | some j =>
        simp only [slotsOf, e1, e2] at ei
        cases ei
        rw [← h.sc] at h2 h3
        obtain ⟨n1, _, _⟩ := slot_ok h e1
        obtain ⟨n2, _, _⟩ := slot_ok h e2
        refine (ps_par (h.calm hcl) h.nd n1 n2 (slot_ne h1 n1 n2) h2 h3 (ha hpl) (swapped_two h.kd h1 h2 h3 h4 hpl h7 h8)).imp fun D σ H q => tA_mono (tupM_some q) fun vs H1 q => ?_
        match vs, q with
        | [v, w], ⟨_, q⟩ => exact ⟨v, w, rfl, q⟩
        | [], ⟨q, _⟩ => simp at q
        | [_], ⟨q, _⟩ => simp at q
        | _ :: _ :: _ :: _, ⟨q, _⟩ => simp at q
  · rename_i x px y py z pz a b c
    simp only [Bool.and_eq_true, decide_eq_true_eq, Bool.not_eq_true'] at hp
    obtain ⟨⟨⟨⟨⟨⟨⟨⟨⟨⟨⟨⟨h1, h2⟩, h3⟩, g1⟩, g2⟩, g3⟩, h4⟩, h4'⟩, h5⟩, h6⟩, h6'⟩, h7⟩, h8⟩ := hp
    have hpl : plainArgs [a, b, c] = true := by simp [plainArgs, h5, h6, h6']
    simp only [tgOf] at ht
    rw [if_pos (by rw [hcl]; rfl)] at ht
    obtain ⟨is, ei, rfl⟩ := Option.map_eq_some_iff.mp ht
    cases e1 : slotOf C x with
    | none => simp [slotsOf, e1] at ei
    | some i =>
      cases e2 : slotOf C y with
      | none => simp [slotsOf, e1, e2] at ei
      | some j =>
        cases e3 : slotOf C z with
        | none => simp [slotsOf, e1, e2, e3] at ei
        | some l =>
          simp only [slotsOf, e1, e2, e3] at ei
          cases ei
          rw [← h.sc] at g1 g2 g3
          obtain ⟨n1, _, _⟩ := slot_ok h e1
          obtain ⟨n2, _, _⟩ := slot_ok h e2
          obtain ⟨n3, _, _⟩ := slot_ok h e3
          refine (ps_par3 (h.calm hcl) h.nd n1 n2 n3 (slot_ne h1 n1 n2) (slot_ne h2 n1 n3) (slot_ne h3 n2 n3) g1 g2 g3 (ha hpl) (swapped_three h.kd h1 h2 h3 g1 g2 g3 h4 h4' hpl h7 h8)).imp fun D σ H q => tA_mono (tupM_some q) fun vs H1 q => ?_
          match vs, q with
          | [u, v, w], ⟨_, q⟩ => exact ⟨u, v, w, rfl, q⟩
          | [], ⟨q, _⟩ => simp at q
          | [_], ⟨q, _⟩ => simp at q
          | [_, _], ⟨q, _⟩ => simp at q
          | _ :: _ :: _ :: _ :: _, ⟨q, _⟩ => simp at q
  · cases hp
theorem sw_eq {elt : Expr} {gs : List Comprehension} {scope : Scope} {pos py : Pos} {y : Str} {l : Nat} {env : Env} : swapsWith (.ListComp elt gs scope pos) (some (.Name y py)) l env = pure true ∨ swapsWith (.ListComp elt gs scope pos) (some (.Name y py)) l env = pure false := by
  unfold swapsWith
  simp only
  generalize (_ && _ : Bool) = b
  cases b
  · exact .inr rfl
  · exact .inl rfl
theorem sw_loc {elt : Expr} {gs : List Comprehension} {scope : Scope} {pos py : Pos} {y : Str} {l : Nat} {env : Env} (h : env.scope.names.lookup y ≠ some .local) : swapsWith (.ListComp elt gs scope pos) (some (.Name y py)) l env = pure false := by
  have ky : (env.kindOf y == some .local) = false := by
    show (env.scope.names.lookup y == some .local) = false
    cases e : env.scope.names.lookup y with
    | none => rfl
    | some k => rw [e] at h; cases k <;> first | rfl | exact absurd rfl h
  unfold swapsWith
  simp only [ky, Bool.and_false, Bool.false_and]
theorem compSet_ok (h : XOk C X W) {elt : Expr} {gens : List Comprehension} {scope : Scope} {pos spos py : Pos} {y : Str} {i : Nat} {fi fe : Ev → M D} {fs : Ev → M (List D)} {ft : Ev → M Bool} (hy : slotOf C y = some i)
    (hi : ∀ tg iter ifs k r, gens = ⟨tg, iter, ifs, k⟩ :: r → DE X W iter fi) (hs : ∀ tg iter ifs k r, gens = ⟨tg, iter, ifs, k⟩ :: r → ∀ g as ks p, iter = .Call g as ks p → plainArgs as = true → DA X W as fs)
    (ht : ∀ {X : Cx} tg iter ifs k r, gens = ⟨tg, iter, ifs, k⟩ :: r → XOk (C.blk scope) X WF → DTs X WF ifs ft) (he : ∀ {X : Cx}, XOk (C.blk scope) X WF → DE X WF elt fe)
    {fi1 : Ev → M D} {fs1 : Ev → M (List D)} {ft1 : Ev → M Bool} (hi1 : ∀ {X : Cx} g tg iter ifs k r, gens = g :: ⟨tg, iter, ifs, k⟩ :: r → XOk (C.blk scope) X WF → DE X WF iter fi1) (hs1 : ∀ {X : Cx} g tg iter ifs k r, gens = g :: ⟨tg, iter, ifs, k⟩ :: r → XOk (C.blk scope) X WF → ∀ g as ks p, iter = .Call g as ks p → plainArgs as = true → DA X WF as fs1)
    (ht1 : ∀ {X : Cx} g tg iter ifs k r, gens = g :: ⟨tg, iter, ifs, k⟩ :: r → XOk (C.blk scope) X WF → DTs X WF ifs ft1) :
    DS X W (.Assign [.Name y py] (.ListComp elt gens scope pos) spos) (asgS (.one i) (compAny C gens scope fi fs ft fi1 fs1 ft1 fe)) := by
  obtain ⟨n1, n2, n3⟩ := slot_ok h hy
  have no : swapsWith (.ListComp elt gens scope pos) (some (.Name y py)) spos.line X.env = pure false → DS X W (.Assign [.Name y py] (.ListComp elt gens scope pos) spos) (asgS (.one i) (compAny C gens scope fi fs ft fi1 fs1 ft1 fe)) :=
    fun sw => ds_asg (compAny_ok h hi hs ht he hi1 hs1 ht1) (pg_one (pgName_ok h hy)) sw rfl rfl
  by_cases hl : X.env.scope.names.lookup y = some .local
  · rcases sw_eq (elt := elt) (gs := gens) (scope := scope) (pos := pos) (py := py) (y := y) (l := spos.line) (env := X.env) with sw | sw
    · unfold compAny
      split
      · rename_i tg iter ifs
        split
        · rename_i t et
          split
          · rename_i hc
            simp only [Bool.and_eq_true] at hc
            obtain ⟨⟨⟨h0, h1⟩, h2⟩, h3⟩ := hc
            have ok : BlkOk X.N X.env.scope scope (ownOf C.N scope.names) := by rw [h.N, h.sc]; exact blkOk_by h1
            have hb := fun s H Cc cl fp => h.blk h0 ok.kind s H Cc cl fp
            refine ds_setLc (h.calm h0) h.nd n1 hl sw (srcM_ok h (hi _ _ _ _ _ rfl) (hs _ _ _ _ _ rfl)) ok (fun i hi => ?_) (fun s H Cc cl fp => tgOf_ok (hb s H Cc cl fp) et) (fun s H Cc cl fp => ht _ _ _ _ _ rfl (hb s H Cc cl fp)) (fun s H Cc cl fp => he (hb s H Cc cl fp)) (plain_fold h3)
            exact of_decide_eq_true (List.all_eq_true.mp h2 i hi)
          · exact asg_stuck
        · exact asg_stuck
      · rename_i tg iter ifs tg1 iter1 ifs1
        split
        · rename_i t t1 et et1
          split
          · rename_i hc
            simp only [Bool.and_eq_true] at hc
            obtain ⟨⟨⟨⟨⟨h0, h1⟩, h2⟩, h2'⟩, h3⟩, h3'⟩ := hc
            have ok : BlkOk X.N X.env.scope scope (ownOf C.N scope.names) := by rw [h.N, h.sc]; exact blkOk_by h1
            have hb := fun s H Cc cl fp => h.blk h0 ok.kind s H Cc cl fp
            refine ds_setLc2 (h.calm h0) h.nd n1 hl sw (srcM_ok h (hi _ _ _ _ _ rfl) (hs _ _ _ _ _ rfl)) ok (fun i hi => of_decide_eq_true (List.all_eq_true.mp h2 i hi)) (fun i hi => of_decide_eq_true (List.all_eq_true.mp h2' i hi)) (fun s H Cc cl fp => tgOf_ok (hb s H Cc cl fp) et) (fun s H Cc cl fp => ht _ _ _ _ _ rfl (hb s H Cc cl fp))
              (fun s H Cc cl fp => srcM_ok (hb s H Cc cl fp) (hi1 _ _ _ _ _ _ rfl (hb s H Cc cl fp)) (hs1 _ _ _ _ _ _ rfl (hb s H Cc cl fp))) (fun s H Cc cl fp => tgOf_ok (hb s H Cc cl fp) et1) (fun s H Cc cl fp => ht1 _ _ _ _ _ _ rfl (hb s H Cc cl fp)) (fun s H Cc cl fp => he (hb s H Cc cl fp)) (plain_fold h3) (fun env x => plain_fold h3' x)
          · exact asg_stuck
        · exact asg_stuck
      · exact asg_stuck
    · exact no sw
  · exact no (sw_loc hl)
theorem swd_eq {kx vx : Expr} {gs : List Comprehension} {scope : Scope} {pos py : Pos} {y : Str} {l : Nat} {env : Env} : swapsWith (.DictComp kx vx gs scope pos) (some (.Name y py)) l env = pure true ∨ swapsWith (.DictComp kx vx gs scope pos) (some (.Name y py)) l env = pure false := by
  unfold swapsWith
  simp only
  generalize (_ && _ : Bool) = b
  cases b
  · exact .inr rfl
  · exact .inl rfl
theorem swd_loc {kx vx : Expr} {gs : List Comprehension} {scope : Scope} {pos py : Pos} {y : Str} {l : Nat} {env : Env} (h : env.scope.names.lookup y ≠ some .local) : swapsWith (.DictComp kx vx gs scope pos) (some (.Name y py)) l env = pure false := by
  have ky : (env.kindOf y == some .local) = false := by
    show (env.scope.names.lookup y == some .local) = false
    cases e : env.scope.names.lookup y with
    | none => rfl
    | some k => rw [e] at h; cases k <;> first | rfl | exact absurd rfl h
  unfold swapsWith
  simp only [ky, Bool.and_false, Bool.false_and]
theorem dcompSet_ok (h : XOk C X W) {kx vx : Expr} {gens : List Comprehension} {scope : Scope} {pos spos py : Pos} {y : Str} {i : Nat} {fi fk fv : Ev → M D} {fs : Ev → M (List D)} {ft : Ev → M Bool} (hy : slotOf C y = some i)
    (hi : ∀ tg iter ifs k r, gens = ⟨tg, iter, ifs, k⟩ :: r → DE X W iter fi) (hs : ∀ tg iter ifs k r, gens = ⟨tg, iter, ifs, k⟩ :: r → ∀ g as ks p, iter = .Call g as ks p → plainArgs as = true → DA X W as fs)
    (ht : ∀ {X : Cx} tg iter ifs k r, gens = ⟨tg, iter, ifs, k⟩ :: r → XOk (C.blk scope) X WF → DTs X WF ifs ft) (hk : ∀ {X : Cx}, XOk (C.blk scope) X WF → DE X WF kx fk) (hv : ∀ {X : Cx}, XOk (C.blk scope) X WF → DE X WF vx fv) :
    DS X W (.Assign [.Name y py] (.DictComp kx vx gens scope pos) spos) (asgS (.one i) (dcompAny C gens scope fi fs ft fk fv)) := by
  obtain ⟨n1, n2, n3⟩ := slot_ok h hy
  have no : swapsWith (.DictComp kx vx gens scope pos) (some (.Name y py)) spos.line X.env = pure false → DS X W (.Assign [.Name y py] (.DictComp kx vx gens scope pos) spos) (asgS (.one i) (dcompAny C gens scope fi fs ft fk fv)) :=
    fun sw => ds_asg (dcompAny_ok h hi hs ht hk hv) (pg_one (pgName_ok h hy)) sw rfl rfl
  by_cases hl : X.env.scope.names.lookup y = some .local
  · rcases swd_eq (kx := kx) (vx := vx) (gs := gens) (scope := scope) (pos := pos) (py := py) (y := y) (l := spos.line) (env := X.env) with sw | sw
    · unfold dcompAny
      split
      · split
        · rename_i t et
          split
          · rename_i hc
            simp only [Bool.and_eq_true] at hc
            obtain ⟨⟨⟨h0, h1⟩, h2⟩, h3⟩ := hc
            exact ds_setDcn (h.calm h0) h.u h.nd n1 hl sw (fun i hi => of_decide_eq_true (List.all_eq_true.mp h2 i hi)) (blk_of h h0 et h1 h3 (hi _ _ _ _ _ rfl) (hs _ _ _ _ _ rfl) (ht _ _ _ _ _ rfl) hk hv)
          · exact asg_stuck
        · exact asg_stuck
      · exact asg_stuck
    · exact no sw
  · exact no (swd_loc hl)
theorem asgAny_ok (h : XOk C X W) {targets : List Expr} {value : Expr} {pos : Pos} {fv fo fi : Ev → M D} (hv : DE X W value fv) (htup : ∀ vs k p, value = .Tuple vs k p → plainArgs vs = true → ∃ fs, DA X W vs fs ∧ fv = tupM fs)
    (hlc : ∀ y py i, noComp value = false → slotOf C y = some i → DS X W (.Assign [.Name y py] value pos) (asgS (.one i) fv)) (ho : ∀ o i p, targets = [.Subscript o i p] → DE X W o fo ∧ DE X W i fi) (hat : ∀ o f p, targets = [.Attribute o f p] → DE X W o fo) :
    DS X W (.Assign targets value pos) (asgAny C targets value fv fo fi) := by
  unfold asgAny
  split
  · split
    · rename_i i ei
      by_cases hc : noComp value = true
      · exact ds_asg hv (pg_one (pgName_ok h ei)) (by simp only [swapsWithSole]; exact swaps_no hc) rfl rfl
      · exact hlc _ _ _ (by simpa using hc) ei
    · exact ds_stuck
  · rename_i ts k tp
    split
    · rename_i t et
      split
      · rename_i hn
        split
        · rename_i vs k2 p2
          split
          · rename_i hp
            exact ds_asg hv (tgOf_ok h et) rfl (swapped_plain h.kd h.sc hp) rfl
          · split
            · rename_i hp
              rw [Bool.and_eq_true] at hp
              obtain ⟨hcl, hp⟩ := hp
              have hpl : plainArgs vs = true := by
                unfold parOk at hp
                split at hp
                · simp only [Bool.and_eq_true] at hp; simp [plainArgs, hp.1.1.1.2, hp.1.1.2]
                · simp only [Bool.and_eq_true] at hp; simp [plainArgs, hp.1.1.1.1.2, hp.1.1.1.2, hp.1.1.2]
                · cases hp
              obtain ⟨fs, q1, rfl⟩ := htup _ _ _ rfl hpl
              exact par_ok h hcl et hp fun _ => q1
            · exact ds_stuck
        · rename_i hnt
          exact ds_asg hv (tgOf_ok h et) (by simp only [swapsWithSole]; exact swaps_no hn) (swapped_not hnt) rfl
      · exact ds_stuck
    · exact ds_stuck
  · split
    · rename_i hp
      rw [Bool.and_eq_true] at hp
      obtain ⟨q1, q2⟩ := ho _ _ _ rfl
      exact ds_setIx h.u hv q1 q2 hp.2 (by simp only [swapsWithSole]; exact swaps_no hp.1)
    · exact ds_stuck
  · refine ds_setF (fun c hc => ?_) (hat _ _ _ rfl) hv
    unfold okG ciG at hc
    split at hc
    · rename_i ci ec
      obtain ⟨Cc, hm, _, hn, _⟩ := h.gl c _ ec
      exact ⟨Cc, hm, hn _ (by simpa using hc)⟩
    · simp at hc
  · exact ds_stuck
theorem augAny_ok (h : XOk C X W) {tg : Expr} {op : Operator} {v : Expr} {pos : Pos} {fv : Ev → M D} (hv : DE X W v fv) : DS X W (.AugAssign tg op v pos) (augAny C tg op fv) := by
  unfold augAny
  split
  · split
    · rename_i i ei
      obtain ⟨n1, n2, n3⟩ := slot_ok h ei
      exact ds_aug hv fun he ho => ps_aug h.nd n1 n2 he ho n3
    · exact ds_stuck
  · exact ds_stuck
theorem forAny_ok (h : XOk C X W) {tg iter : Expr} {body orelse : List Stmt} {pos : Pos} {g : Ev → S} (hi : DE X W iter (ev C iter)) (hs : ∀ g as ks p, iter = .Call g as ks p → plainArgs as = true → DA X W as (evArgs C iter)) (hb : DSs X W body g) : DS X W (.For tg iter body orelse pos) (forAny C tg iter orelse g) := by
  unfold forAny
  split
  · split
    · rename_i t et
      split
      · rename_i hn
        rw [Bool.and_eq_true] at hn
        exact ds_for h.po (h.calm hn.1) (srcM_ok h hi hs) (tgOf_ok h et) hb (plain_fold hn.2)
      · exact ds_stuck
    · exact ds_stuck
  · exact ds_stuck
theorem errM_fld {E : Addr} {f : Str} (F : ErrC X.prog X.K E (some f)) : PySem.W.findIn X.K (.ref E) f = some none := by
  obtain ⟨fI, cc, cda, qual, txt, file, tf, params, body, scope, dV, kV, doc, pm, ct, oc, ccl, cl, an, od, cdd, cld, osl, ccs, csl, vs, cd, ar, p0, p1, p2, p3, p4, p5, j, ps, iC, tI, lk, hcd, lcc, lcd, hvs, hfile, hsub, hsup, hVE, hsn, hop, hbody, hline, hps, hb, hp, har, s1, s2, s3, s4, s5⟩ := F.kn
  exact (s4 f rfl).2.2.2
theorem lf_v {K : PySem.W.Frag} {mg : Str → Option Value} {m : List Addr} {H : Hp} {d : D} {l : Lf} {v : V} (h : d.lf? = some l) (r : RV K mg m H d v) : v = l.v := by
  cases d <;> simp only [D.lf?] at h <;> cases h <;> simpa [RV, Lf.v] using r
theorem raise_ok (h : XOk C X W) {e c : Option Expr} {pos : Pos} {f1 : Ev → M D} (h1 : ∀ g as ks q, e = some (.Call g as ks q) → ∀ a r, as = a :: r → DE X W a f1) : DS X W (.Raise e c pos) (raiseAny C f1 e c) := by
  unfold raiseAny
  split
  · rename_i x p args q
    split
    · rename_i hc
      rw [Bool.and_eq_true] at hc
      obtain ⟨hg, hdb, _⟩ := glob_of h hc.2
      have hcalm := h.calm hc.1
      split
      · rename_i ey
        obtain ⟨hr, E, hm, F, hM⟩ := h.gl x _ ey
        exact (ps_raise hcalm h.tk (pmk_err0 F (hr hcalm) hg hm hdb)).imp fun D σ H ⟨m, ev, hs, rs, hrr, q⟩ => q m H σ _ _ .refl hrr rs ⟨E, hm, rfl, hM, (fun p hp => by cases hp), .inl ⟨rfl, rfl⟩⟩
      · rename_i f a ey
        split
        · rename_i hst
          obtain ⟨hr, E, hm, F, hM⟩ := h.gl x _ ey
          refine (ps_raise hcalm h.tk (pmk_err1 F (hr hcalm) (h1 _ _ _ _ rfl _ _ rfl) hg hm hdb (star_cons hst))).imp fun D σ H ⟨m, ev, hs, rs, hrr, q⟩ => ⟨m, ev, hs, rs, hrr, (q.expr rs).mono fun d m1 hs1 H1 e1 hr1 q1 v rv dd nd => ?_⟩
          unfold raise1 at q1
          cases el : d.lf? with
          | none => simp only [el] at q1; exact q1.elim
          | some l =>
            simp only [el] at q1
            obtain rfl := lf_v el rv
            refine q1 m1 _ σ _ _ (Ext.upd_new nd) (hr1.upd_new nd) ((rs.mono e1).mono (Ext.upd_new nd)) ⟨E, hm, rfl, hM, fun p hp => ?_, .inr ⟨dd, rfl, ?_⟩⟩
            · obtain rfl : p = (f, l) := by simpa using hp
              exact errM_fld F
            · exact upd_same
        · exact ds_stuck
      · exact ds_stuck
    · exact ds_stuck
  · exact ds_stuck
theorem xok_tr (h : XOk C X W) (hcl : C.cool = true) {pn : List (Addr × Obj)} {xe : Value → Shared → Prop} {W' : WX} (tk : Takes (X.tr pn xe) W') (po : PassesOwn (model X.prog X.w) X.A X.env xe) : XOk C (X.tr pn xe) W' where
  N := h.N
  sc := h.sc
  nd := h.nd
  calm := h.calm
  st := h.st
  hot := fun t e => by
    unfold SC.cool at hcl
    rw [e] at hcl
    cases hcl
  po := po
  tk := tk
  u := h.u
  gd := h.gd
  kd := h.kd
  fn := h.fn
  gl := fun x g e => by
    have q := h.gl x g e
    cases g with
    | val d => exact q
    | fn n f => exact q
    | bi => exact q
    | err => exact q
    | base => exact q
    | cls => exact q
theorem xok_suite (h : XOk C X W) {t : Tk} {oe : Obj} {pn : List (Addr × Obj)} (hz : Zc t.cls t.d oe) (hf : ∃ vs, oe.data = .fields vs) : XOk (C.at t) (X.suite t.a ((t.a, oe) :: pn)) WF where
  N := h.N
  sc := h.sc
  nd := h.nd
  calm := fun e => by
    have e' : (C.at t).cool = true := e
    cases e'
  st := h.st
  hot := fun t' e => by
    have e' : some t = some t' := e
    cases e'
    exact ⟨oe, List.mem_cons_self, hz, hf⟩
  po := PassesOwn.never
  tk := takes_none5
  u := h.u
  gd := h.gd
  kd := h.kd
  fn := h.fn
  gl := fun x g e => by
    have q := h.gl x g e
    cases g with
    | val d => exact q
    | fn n f =>
      obtain ⟨k, g, fd, ps, F, hr, r⟩ := q
      exact ⟨k, g, fd, ps, F, fun z => absurd z (by simp), r⟩
    | bi => exact q
    | err => exact ⟨fun z => absurd z (by simp), q.2⟩
    | base => exact q
    | cls ci =>
      obtain ⟨C, h1, h2, h3, h4, h5⟩ := q
      refine ⟨C, h1, h2, h3, fun n f e => ?_, fun m n f e => ?_⟩
      · obtain ⟨j, g, fd, ps, hj, r⟩ := h4 n f e; exact ⟨j, g, fd, ps, fun z => absurd z (by simp), r⟩
      · obtain ⟨j, g, fd, ps, hj, r⟩ := h5 m n f e; exact ⟨j, g, fd, ps, fun z => absurd z (by simp), r⟩
theorem RS.dropV {K : PySem.W.Frag} {mg : Str → Option Value} {m : List Addr} {H : Hp} {e : Ev} {σ : L2.St} (h : RS K mg m H e σ) (o : Option Nat) : RS K mg m H (DL.dropV o e) (dropE o σ) := by
  cases o with
  | none => exact h
  | some i =>
    refine ⟨by show (e.set i none).length = (σ.set i none).length; simp [h.len], fun j d hj => ?_⟩
    have hj' : (e.set i none)[j]? = some (some d) := hj
    by_cases q : j = i
    · subst q
      by_cases hlt : j < e.length
      · rw [List.getElem?_set_self hlt] at hj'; cases hj'
      · rw [List.getElem?_eq_none (by simpa using hlt)] at hj'; cases hj'
    · rw [List.getElem?_set_ne (Ne.symm q)] at hj'
      obtain ⟨v, h1, h2⟩ := h.at_ j d hj'
      refine ⟨v, ?_, h2⟩
      show (σ.set i none)[j]? = _
      rw [List.getElem?_set_ne (Ne.symm q)]
      exact h1
theorem RS.putV {K : PySem.W.Frag} {mg : Str → Option Value} {m : List Addr} {H : Hp} {e : Ev} {σ : L2.St} {d : D} {a : Addr} (h : RS K mg m H e σ) (o : Option Nat) (r : RV K mg m H d (.ref a)) : RS K mg m H (DL.putV o d e) (putE o a σ) := by
  cases o with
  | none => exact h
  | some i => exact h.set r i
theorem tryK_get {run : Tk → Option (Fl × Hs)} {r : Fl × Hs} (h : tryK run = some r) (t : Tk) : run t = some r := by
  unfold tryK at h
  split at h
  · rename_i q
    cases h
    exact Classical.choose_spec q t
  · cases h
/-- the suite, with the error's name or without -/
theorem suite_ok {K : PySem.W.Frag} {mg : Str → Option Value} {m : List Addr} {H : Hp} {ev : Ev} {σ : L2.St} {hs : Hs} {o : Option Nat} {x : Ex} {g : Tk → Ev → S} {D : Ends} {cls : Value} {d : Option Addr} {a : Addr} (rs : RS K mg m H ev σ) (hr : HR K mg m hs H) (rx : RX K mg H x cls d)
    (q : AfterS K mg W m H (suiteK o x g ev hs) D) : tS K mg WF (g ⟨a, cls, d⟩) (goneD o D) (putE o a σ) H := by
  refine ⟨m, DL.putV o (.exv ⟨a, cls, d⟩ x.cls x.arg) ev, hs, rs.putV o (by simp only [RV]; exact ⟨trivial, rx⟩), hr, ?_⟩
  unfold suiteK at q
  cases e : tryK (fun t => match g t (DL.putV o (.exv t x.cls x.arg) ev) hs with
    | some (r, h) => (stripF o r).map (·, h)
    | none => none) with
  | none => rw [e] at q; exact q.elim
  | some r =>
    rw [e] at q
    have e1 : (match g ⟨a, cls, d⟩ (DL.putV o (.exv ⟨a, cls, d⟩ x.cls x.arg) ev) hs with
      | some (r, h) => (stripF o r).map (·, h)
      | none => none) = some r := tryK_get e ⟨a, cls, d⟩
    cases e2 : g ⟨a, cls, d⟩ (DL.putV o (.exv ⟨a, cls, d⟩ x.cls x.arg) ev) hs with
    | none => rw [e2] at e1; cases e1
    | some r0 =>
      obtain ⟨r0, h0⟩ := r0
      rw [e2] at e1
      cases r0 with
      | nx e3 => cases e1; exact fun m' H' σ' x1 x2 x3 => q m' H' _ x1 x2 (x3.dropV o)
      | ret d3 => cases e1; exact fun m' H' v x1 x2 x3 => q m' H' v x1 x2 x3
      | bk e3 => cases e1; exact fun m' H' σ' x1 x2 x3 => q m' H' _ x1 x2 (x3.dropV o)
      | ct e3 => cases e1; exact fun m' H' σ' x1 x2 x3 => q m' H' _ x1 x2 (x3.dropV o)
      | exc z e3 => cases e1
/-- what is asked of the clauses -/
def HdsP (C : SC) (X : Cx) (W : WX) (hds : List ExceptHandler) (k : Ex → Ev → S) : Prop := ∃ l, HdsA X hds l ∧ ∀ (x : Ex) (cls : Value) (d : Option Addr) (D : Ends) (σ : L2.St) (H : Hp) (m : List Addr) (ev : Ev) (hs : Hs), RS X.K X.mg m H ev σ → HR X.K X.mg m hs H → RX X.K X.mg H x cls d → AfterS X.K X.mg W m H (k x ev hs) D → wAll X.K W D l cls d σ H
theorem hds_nil : HdsP C X W [] fun x e hs => some (.exc x e, hs) := ⟨[], .nil, fun x cls d D σ H m ev hs rs hr rx q => q m H σ cls d .refl hr rs rx⟩
theorem hds_cons (h : XOk C X W) {y : Str} {np pos' : Pos} {nm : Option Str} {b₀ : Stmt} {suite : List Stmt} {hds : List ExceptHandler} {g : Tk → Ev → S} {k : Ex → Ev → S} (hc : clsOk C y = true) (hn : (okSlot C nm).isSome = true)
    (hsu : ∀ (t : Tk) (oe : Obj) (pn : List (Addr × Obj)), Zc t.cls t.d oe → (∃ vs, oe.data = .fields vs) → DSs (X.suite t.a ((t.a, oe) :: pn)) WF (b₀ :: suite) (g t)) (hr : HdsP C X W hds k) :
    HdsP C X W (.ExceptHandler (some (.Name y np)) nm (b₀ :: suite) pos' :: hds) fun x => hdAny C x (some (.Name y np)) nm g (k x) := by
  obtain ⟨l, hl, ih⟩ := hr
  unfold clsOk at hc
  rw [Bool.and_eq_true] at hc
  obtain ⟨hg, hdb, hne⟩ := glob_of h hc.1
  -- the class that is named
  have hcl : ∃ v, Names X y v ∧ ∀ c E b, X.mg c = some (.ref E) → ErrM X.K X.mg c E → hitC C c y = some b → PySem.W.exmOne X.K (.ref E) v = some b := by
    have hc2 := hc.2
    cases eg : C.G y with
    | none => rw [eg] at hc2; cases hc2
    | some gi =>
      rw [eg] at hc2
      cases gi with
      | val d => cases hc2
      | cls ci => cases hc2
      | fn n f => cases hc2
      | bi =>
        have hm : X.mg y = none := h.gl y _ eg
        have hy : y = ("ValueError" : Str) ∨ y = ("Exception" : Str) := by simpa using hc2
        rcases hy with rfl | rfl
        · refine ⟨.type "ValueError", ⟨hg, hdb, .inr ⟨hm, by kernel_rfl, hne⟩⟩, fun c E b h1 h2 h3 => ?_⟩
          unfold hitC at h3
          rw [eg] at h3
          simp at h3
          subst h3
          exact (hit_ty h2 (.inl rfl)).2
        · refine ⟨.type "Exception", ⟨hg, hdb, .inr ⟨hm, by kernel_rfl, hne⟩⟩, fun c E b h1 h2 h3 => ?_⟩
          unfold hitC at h3
          rw [eg] at h3
          simp at h3
          subst h3
          exact (hit_ty h2 (.inr rfl)).2
      | err fld =>
        obtain ⟨_, D, hD, _⟩ := h.gl y _ eg
        refine ⟨.ref D, ⟨hg, hdb, .inl hD⟩, fun c E b h1 h2 h3 => ?_⟩
        unfold hitC at h3
        rw [eg] at h3
        obtain ⟨D', q1, _, q2⟩ := hit_ok h h2 h1 h3
        rw [hD] at q1
        cases q1
        exact q2
      | base =>
        obtain ⟨_, D, hD⟩ := h.gl y _ eg
        refine ⟨.ref D, ⟨hg, hdb, .inl hD⟩, fun c E b h1 h2 h3 => ?_⟩
        unfold hitC at h3
        rw [eg] at h3
        obtain ⟨D', q1, _, q2⟩ := hit_ok h h2 h1 h3
        rw [hD] at q1
        cases q1
        exact q2
  obtain ⟨v, hN, hhit⟩ := hcl
  cases eo : okSlot C nm with
  | none => rw [eo] at hn; cases hn
  | some o =>
    have fin : ∀ (x : Ex) (cls : Value) (d : Option Addr) (D : Ends) (σ : L2.St) (H : Hp) (m : List Addr) (ev : Ev) (hs : Hs), RS X.K X.mg m H ev σ → HR X.K X.mg m hs H → RX X.K X.mg H x cls d → AfterS X.K X.mg W m H (hdAny C x (some (.Name y np)) nm g (k x) ev hs) D →
        wAll X.K W D ((v, o, fun a cls d => tS X.K X.mg WF (g ⟨a, cls, d⟩)) :: l) cls d σ H := by
      intro x cls d D σ H m ev hs rs hr rx q
      obtain ⟨E, c1, c2, c3, c4⟩ := id rx
      unfold hdAny at q
      simp only [eo] at q
      cases eh : hitC C x.cls y with
      | none => simp only [eh] at q; exact q.elim
      | some b =>
        refine ⟨b, by rw [c2]; exact hhit _ _ _ c1 c3 eh, fun hb a na => ?_, fun hb => ?_⟩
        · subst hb
          simp only [eh] at q
          exact suite_ok rs hr rx q
        · subst hb
          simp only [eh] at q
          exact ih x cls d D σ H m ev hs rs hr rx q
    cases nm with
    | none =>
      cases eo
      exact ⟨_, .plain hN (fun a oe cls d pn hz hf => hsu ⟨a, cls, d⟩ oe pn hz hf) hl, fin⟩
    | some n =>
      have eo' : (if C.sc.names.lookup n = some .local then (findIx C.N n).map some else none) = some o := eo
      split at eo'
      · rename_i hloc
        obtain ⟨i, ei, rfl⟩ := Option.map_eq_some_iff.mp eo'
        exact ⟨_, .named hN (by rw [h.N]; exact findIx_get ei) (by show X.env.scope.names.lookup n = _; rw [h.sc]; exact hloc) (fun a oe cls d pn hz hf => hsu ⟨a, cls, d⟩ oe pn hz hf) hl, fin⟩
      · cases eo'
theorem hds_one (h : XOk C X W) {ty : Option Expr} {nm : Option Str} {suite : List Stmt} {pos' : Pos} {hds : List ExceptHandler} {k : Ex → Ev → S} (hk : hdOk C (.ExceptHandler ty nm suite pos') = true) (ihb : ∀ {C : SC} {X : Cx} {W : WX}, XOk C X W → DSs X W suite (evB C suite)) (hr : HdsP C X W hds k) :
    HdsP C X W (.ExceptHandler ty nm suite pos' :: hds) fun x => hdAny C x ty nm (fun t => evB (C.at t) suite) (k x) := by
  cases suite with
  | nil => cases ty with
    | none => cases hk
    | some t => cases t <;> cases hk
  | cons b₀ r =>
    cases ty with
    | none => cases hk
    | some t =>
      cases t with
      | Name y np =>
        have h1 : (clsOk C y && (okSlot C nm).isSome) = true := hk
        rw [Bool.and_eq_true] at h1
        exact hds_cons h h1.1 h1.2 (fun t oe pn hz hf => ihb (xok_suite h hz hf)) hr
      | _ => cases hk
theorem try_ok (h : XOk C X W) {body : List Stmt} {h₀ : ExceptHandler} {hds : List ExceptHandler} {pos : Pos} {gb : Ev → S} {k : Ex → Ev → S} (hcl : C.cool = true) (hib : C.inb = false) (hb : ∀ {X : Cx} {W : WX}, XOk C X W → DSs X W body gb) (hh : HdsP C X W (h₀ :: hds) k) : DS X W (.Try body (h₀ :: hds) [] [] pos) (tryS gb k) := by
  obtain ⟨l, hl, ih⟩ := hh
  refine (ps_try_all (tb := fun W' => tS X.K X.mg W' gb) (h.st hib).1 (h.st hib).2 h.nd h.tk (fun W' pn xe tk po => hb (xok_tr h hcl tk po)) hl).imp fun D σ H ⟨m, ev, hs, rs, hr, q⟩ => ⟨m, ev, hs, rs, hr, ?_⟩
  unfold tryS at q
  cases e : gb ev hs with
  | none => rw [e] at q; exact q
  | some r =>
    obtain ⟨r, h1⟩ := r
    rw [e] at q
    cases r with
    | exc x e1 => exact fun m' H' σ' cls d x1 x2 x3 x4 => ih x cls d D σ' H' m' e1 h1 x3 x2 x4 (AfterS.from x1 q)
    | nx e1 => exact q
    | ret d => exact q
    | bk e1 => exact q
    | ct e1 => exact q
end
mutual
theorem evS_ok : ∀ (s : Stmt) {C : SC} {X : Cx} {W : WX}, XOk C X W → DS X W s (evS C s)
  | .Expr v pos, C, X, W, h => by
    simp only [evS]
    split
    · rename_i hn; exact ds_expr (ev_ok v h) (swaps_no hn)
    · exact ds_stuck
  | .Assign targets value pos, C, X, W, h => by
    simp only [evS]
    refine asgAny_ok h (ev_ok value h) (fun vs k p e hp => ?_) (fun y py i hn hy => ?_) (fun o i p e => ?_) (fun o f p e => ?_)
    · subst e; exact ⟨evs C vs, evs_ok vs h hp, by rw [ev, if_pos hp]⟩
    · cases value <;> first | (cases hn; done) | skip
      · rw [ev]
        exact compSet_ok h hy (evGen_ok _ h) (evGenA_ok _ h) (fun {X} => evGenIf_ok _) (fun {X} h => ev_ok _ h) (fun {X} => evGen1_ok _) (fun {X} => evGenA1_ok _) (fun {X} => evGenIf1_ok _)
      · simp only [ev]; exact asg_stuck
      · simp only [ev]
        exact dcompSet_ok h hy (evGen_ok _ h) (evGenA_ok _ h) (fun {X} => evGenIf_ok _) (fun {X} h => ev_ok _ h) (fun {X} h => ev_ok _ h)
    · subst e
      simp only [evTO, evTI]
      exact ⟨ev_ok o h, ev_ok i h⟩
    · subst e
      simp only [evTO]
      exact ev_ok o h
  | .AugAssign tg op v pos, C, X, W, h => by
    simp only [evS]
    exact augAny_ok h (ev_ok v h)
  | .For tg iter body orelse pos, C, X, W, h => by
    simp only [evS]
    exact forAny_ok h (ev_ok iter h) (evArgs_ok iter h) (evB_ok body h)
  | .While t body orelse pos, C, X, W, h => by
    simp only [evS]
    split
    · exact ds_while h.po (evT_ok t h) (evB_ok body h)
    · exact ds_stuck
  | .If t a b pos, C, X, W, h => by
    simp only [evS]
    exact ds_if (evT_ok t h) (evB_ok a h) (evB_ok b h)
  | .Return v pos, C, X, W, h => by
    simp only [evS]
    split
    · exact ds_ret (ev_ok _ h)
    · exact ds_retN
  | .Pass _, C, X, W, h => by simp only [evS]; exact ds_pass
  | .Break _, C, X, W, h => by simp only [evS]; exact ds_break
  | .Continue _, C, X, W, h => by simp only [evS]; exact ds_continue
  | .FunctionDef .., _, _, _, _ => by simp only [evS]; exact ds_stuck
  | .AsyncFunctionDef .., _, _, _, _ => by simp only [evS]; exact ds_stuck
  | .ClassDef .., _, _, _, _ => by simp only [evS]; exact ds_stuck
  | .Delete .., _, _, _, _ => by simp only [evS]; exact ds_stuck
  | .TypeAlias .., _, _, _, _ => by simp only [evS]; exact ds_stuck
  | .AnnAssign .., _, _, _, _ => by simp only [evS]; exact ds_stuck
  | .AsyncFor .., _, _, _, _ => by simp only [evS]; exact ds_stuck
  | .With .., _, _, _, _ => by simp only [evS]; exact ds_stuck
  | .AsyncWith .., _, _, _, _ => by simp only [evS]; exact ds_stuck
  | .Match .., _, _, _, _ => by simp only [evS]; exact ds_stuck
  | .Raise e c pos, C, X, W, h => by
    simp only [evS]
    refine raise_ok h fun g as ks q e1 a r e2 => ?_
    subst e1
    exact evFst_ok _ h _ _ _ _ rfl _ _ e2
  | .Try body hds orelse fin pos, C, X, W, h => by
    simp only [evS]
    split
    · split
      · rename_i hc
        simp only [Bool.and_eq_true, Bool.not_eq_true'] at hc
        obtain ⟨⟨⟨h1, h2⟩, h3⟩, h4⟩ := hc
        cases hds with
        | nil => cases h3
        | cons h₀ r => exact try_ok h h1 h2 (fun {X W} h => evB_ok body h) (evH_ok (h₀ :: r) h h4)
      · exact ds_stuck
    · exact ds_stuck
  | .TryStar .., _, _, _, _ => by simp only [evS]; exact ds_stuck
  | .Assert .., _, _, _, _ => by simp only [evS]; exact ds_stuck
  | .Import .., _, _, _, _ => by simp only [evS]; exact ds_stuck
  | .ImportFrom .., _, _, _, _ => by simp only [evS]; exact ds_stuck
  | .Global .., _, _, _, _ => by simp only [evS]; exact ds_stuck
  | .Nonlocal .., _, _, _, _ => by simp only [evS]; exact ds_stuck
theorem evB_ok : ∀ (b : List Stmt) {C : SC} {X : Cx} {W : WX}, XOk C X W → DSs X W b (evB C b)
  | [], C, X, W, h => by simp only [evB]; exact dss_nil
  | s :: r, C, X, W, h => by simp only [evB]; exact dss_cons (evS_ok s h) (evB_ok r h)
theorem evH_ok : ∀ (hds : List ExceptHandler) {C : SC} {X : Cx} {W : WX}, XOk C X W → hds.all (hdOk C) = true → HdsP C X W hds (evH C hds)
  | [], C, X, W, h, _ => by simp only [evH]; exact hds_nil
  | .ExceptHandler ty nm suite pos' :: r, C, X, W, h, hc => by
    have ihb : ∀ {C : SC} {X : Cx} {W : WX}, XOk C X W → DSs X W suite (evB C suite) := fun h => evB_ok suite h
    have hc' : hdOk C (.ExceptHandler ty nm suite pos') = true ∧ r.all (hdOk C) = true := by rw [List.all_cons, Bool.and_eq_true] at hc; exact hc
    have ihr := evH_ok r h hc'.2
    simp only [evH]
    exact hds_one h hc'.1 ihb ihr
end
end DL
set_option Elab.async false
set_option linter.all false
set_option maxRecDepth 100000
set_option maxHeartbeats 4000000
namespace DL
open PySem PySem.Spec PyProof.Rows L2

/-! ## defs -/
def startE (n : Nat) (ds : List D) : Ev := ds.map some ++ List.replicate (n - ds.length) none
def runB (n : Nat) (b : Ev → S) (ds : List D) : M D := fun hs => match b (startE n ds) hs with
  | some (.nx _, h) => some (.ok .non, h)
  | some (.ret d, h) => some (.ok d, h)
  | some (.exc x _, h) => some (.error x, h)
  | _ => none
theorem start_ok {K : PySem.W.Frag} {mg : Str → Option Value} {m : List Addr} {H : Hp} {N : List Str} {ds : List D} {vs : List V} (h : RVs K mg m H ds vs) : RS K mg m H (startE N.length ds) (L2.start N vs) := by
  have hl := h.length
  refine ⟨by simp [startE, L2.start, hl], fun i d e => ?_⟩
  unfold startE at e
  unfold L2.start
  by_cases hi : i < ds.length
  · rw [List.getElem?_append_left (by simpa using hi), List.getElem?_map] at e
    rw [List.getElem?_append_left (by simpa [← hl] using hi), List.getElem?_map]
    cases e1 : ds[i]? with
    | none => rw [e1] at e; cases e
    | some d' =>
      rw [e1] at e
      cases e
      obtain ⟨v, h1, h2⟩ := h.get e1
      exact ⟨v, by rw [h1]; rfl, h2⟩
  · rw [List.getElem?_append_right (by simpa using hi)] at e
    rw [List.getElem?_replicate] at e
    split at e <;> cases e
/-- what a def's globals are -/
def GAt (P : Program) (w : World) (K : PySem.W.Frag) (mg : Str → Option Value) (base : Heap) (k : Nat) (x : Str) : GI → Prop
  | .val d => ∃ u v, mg x = some u ∧ RelV v u ∧ ∀ m H, RV K mg m H d v
  | .fn n f => ∃ g fd ps, FnG P w K mg base (L2.CX P w) k g fd ps (spD K mg n f) ∧ mg x = some (.ref g) ∧ PySem.W.keepIn K (.ref g) = true ∧ Binds K fd ps []
  | .bi => mg x = none
  | .err fld => 1 ≤ k ∧ ∃ E, mg x = some (.ref E) ∧ ErrC P K E fld ∧ ErrM K mg x E
  | .base => x = "SilentError" ∧ ∃ E, mg x = some (.ref E)
  | .cls ci => ∃ C, mg x = some (.ref C) ∧ CK K mg ci C ∧ (∀ f ∈ ci.fl, NoAttr K C f) ∧
      (∀ n f, ci.ini = some (n, f) → ∃ j g fd ps, j + 1 ≤ k ∧ Mk K C g ∧ CF K C ∧ FnG P w K mg base (L2.CX P w) j g fd ps (spD K mg n f) ∧ Binds K fd ps []) ∧
      ∀ m n f, ci.ms.lookup m = some (n, f) → ∃ j g fd ps, j ≤ k ∧ Meth K C m g ∧ FnG P w K mg base (L2.CX P w) j g fd ps (spD K mg n f) ∧ Binds K fd ps []
section
variable {P : Program} {w : World} {K : PySem.W.Frag} {mg : Str → Option Value} {base : Heap}
theorem GAt.mono {j k : Nat} {x : Str} {g : GI} (h : GAt P w K mg base j x g) (hk : j ≤ k) : GAt P w K mg base k x g := by
  cases g with
  | val d => exact h
  | fn n f => obtain ⟨g, fd, ps, F, h⟩ := h; exact ⟨g, fd, ps, F.up hk, h⟩
  | bi => exact h
  | err fld => exact ⟨Nat.le_trans h.1 hk, h.2⟩
  | base => exact h
  | cls ci =>
    obtain ⟨C, h1, h2, h3, h4, h5⟩ := h
    refine ⟨C, h1, h2, h3, fun n f e => ?_, fun m n f e => ?_⟩
    · obtain ⟨j, g, fd, ps, hj, q⟩ := h4 n f e; exact ⟨j, g, fd, ps, by omega, q⟩
    · obtain ⟨j, g, fd, ps, hj, q⟩ := h5 m n f e; exact ⟨j, g, fd, ps, by omega, q⟩
/-- every global of the list -/
def GAll (P : Program) (w : World) (K : PySem.W.Frag) (mg : Str → Option Value) (base : Heap) (k : Nat) (G : List (Str × GI)) : Prop := ∀ p ∈ G, GAt P w K mg base k p.1 p.2
theorem GAll.nil {k : Nat} : GAll P w K mg base k [] := fun _ h => by cases h
theorem GAll.cons {k : Nat} {x : Str} {g : GI} {G : List (Str × GI)} (h : GAt P w K mg base k x g) (r : GAll P w K mg base k G) : GAll P w K mg base k ((x, g) :: G) := fun p hp => by
  rcases List.mem_cons.mp hp with q | q
  · subst q; exact h
  · exact r p q
theorem GAll.mono {j k : Nat} {G : List (Str × GI)} (h : GAll P w K mg base j G) (hk : j ≤ k) : GAll P w K mg base k G := fun p hp => (h p hp).mono hk
theorem xok_of {C : SC} {qual : Str} {st : Stmt} {f : Addr} {cdv : Value} {A : Around} {outer : List Env} {s : Shared} {H : Hp} {E : XK} {k : Nat} {ps : List Str} (S : FnScope C.N ps (defScope st)) (hsc : defScope st = C.sc)
    (hct : C.hot = none) (gd : A.guards = some []) (hr : Room k (A.deeper (envOfC qual (defScope st) s.heap.objs.size f cdv))) (hg : ∀ x g, C.G x = some g → GAt P w K mg base k x g) :
    XOk C (cxOf (L2.CX P w) P w K mg base C.N qual (defScope st) f cdv A outer s H E) (fun cls d _ H => E cls d H) where
  N := rfl
  sc := hsc
  nd := S.nd
  calm := fun _ => rfl
  st := fun _ => ⟨rfl, rfl⟩
  hot := fun t e => by rw [hct] at e; cases e
  po := passes_of rfl
  tk := takes_of rfl rfl rfl rfl
  u := by have := hr.un; show (A.deeper _).units + 65 < _; omega
  gd := gd
  kd := S.kind
  fn := fun _ _ => rfl
  gl := fun x g e => by
    have q := hg x g e
    cases g with
    | val d => exact q
    | fn n ff => obtain ⟨g, fd, ps, F, h1, h2, h3⟩ := q; exact ⟨k, g, fd, ps, F, fun _ => hr, h1, h2, h3⟩
    | bi => exact q
    | err fld => obtain ⟨hk, q⟩ := q; exact ⟨fun _ => hr.mono hk, q⟩
    | base => exact q
    | cls ci =>
      obtain ⟨C, h1, h2, h3, h4, h5⟩ := q
      refine ⟨C, h1, h2, h3, fun n f e => ?_, fun m n f e => ?_⟩
      · obtain ⟨j, g, fd, ps, hj, q1, q2, q3, q4⟩ := h4 n f e; exact ⟨j, g, fd, ps, fun _ => hr.mono hj, q1, q2, q3, q4⟩
      · obtain ⟨j, g, fd, ps, hj, q1, q2, q3⟩ := h5 m n f e; exact ⟨j, g, fd, ps, fun _ => hr.mono hj, q1, q2, q3⟩
theorem fn_okD {C : SC} {x qual : Str} {st : Stmt} {f : Addr} {fd : FuncData} {ps : List Str} {k : Nat} (F : Fun K x qual st f fd) (S : FnScope C.N ps (defScope st)) (hsc : defScope st = C.sc) (hct : C.hot = none := by rfl) (hg : ∀ x g, C.G x = some g → GAt P w K mg base k x g) :
    FnG P w K mg base (L2.CX P w) (k + 1) f fd ps (spD K mg ps.length (runB C.N.length (evB C (defBody st)))) := by
  refine fnG_of F S (fun vs H Q E ⟨m, hs, ds, hr, rvs, hl, _⟩ => by rw [← rvs.length]; exact hl) (fun cdv A outer s H vs Q E gd hr h => ?_)
  obtain ⟨m, hs, ds, hrr, rvs, hl, q⟩ := h
  have xo := xok_of (C := C) (f := f) (cdv := cdv) (outer := outer) (H := H) (E := E) (qual := qual) S hsc hct gd hr hg
  refine ⟨_, evB_ok (defBody st) xo, m, startE C.N.length ds, hs, start_ok rvs, hrr, ?_⟩
  unfold runB at q
  show AfterS K mg _ m H (evB C (defBody st) (startE C.N.length ds) hs) _
  cases e : evB C (defBody st) (startE C.N.length ds) hs with
  | none => rw [e] at q; exact q.elim
  | some r =>
    obtain ⟨r, h1⟩ := r
    rw [e] at q
    cases r with
    | nx e1 => exact fun m' H' σ' x hr _ => q m' H' x hr .non mk_non
    | ret d => exact fun m' H' v x hr r => q m' H' x hr v r
    | bk e1 => exact q.elim
    | ct e1 => exact q.elim
    | exc z e1 => exact fun m' H' σ' cls d x hr _ rx => q m' H' cls d x hr rx
/-- the law's promise: the run tells True on every row of integers that is short -/
def SpLaw (K : PySem.W.Frag) : Sp := fun vs H Q _ => ∃ (a : Addr) (ns : List Int), vs = [.ref a] ∧ SqF K H a (ns.map V.int) ∧ ns.length ≤ 63 ∧ ∀ H', Q (.bl true) H'
theorem law_sp {r : List D → M D} (h : ∀ ns : List Int, ns.length ≤ 63 → ∃ hs', r [.frl (ns.map D.int)] [] = some (.ok (.bl true), hs')) (vs : List V) (H : Hp) (Q : VK) (E : XK) (q : SpLaw K vs H Q E) : spD K mg 1 r vs H Q E := by
  obtain ⟨a, ns, rfl, hS, hl, k⟩ := q
  obtain ⟨hs', e⟩ := h ns hl
  refine ⟨[], [], [.frl (ns.map D.int)], ⟨rfl, List.nodup_nil, fun n o a h => by simp at h⟩, RVs.cons ?_ (RVs.nil_iff.mpr rfl), rfl, ?_⟩
  · simp only [RV]
    refine ⟨a, ns.map V.int, rfl, hS, ?_⟩
    clear hS hl e
    induction ns with
    | nil => exact RVs.nil_iff.mpr rfl
    | cons n r ih => exact RVs.cons mk_int ih
  · rw [e]
    exact fun m' H' _ _ v r => by rw [rv_bl r]; exact k H'
theorem sqF_of {H : Hp} {a : Addr} {xs : List V} (hO : Only H) (h : SqL K H a xs) : SqF K H a xs := by
  rcases h with (h | ⟨o, h⟩) | h
  · rcases hO a with q | ⟨o, ys, q⟩ <;> rw [h] at q <;> cases q
  · exact .inl ⟨o, h⟩
  · exact .inr h
end
end DL
set_option Elab.async false
set_option linter.all false
set_option maxRecDepth 100000
set_option maxHeartbeats 4000000
namespace DL
open PySem PySem.Spec PyProof.Rows L2

/-! ## what holds behind a run of the little machine -/
def Wp {β : Type} (x : Option (β × Hs)) (Q : β → Hs → Prop) : Prop := match x with
  | some (b, h) => Q b h
  | none => False
theorem Wp.mono {β : Type} {x : Option (β × Hs)} {Q R : β → Hs → Prop} (h : Wp x Q) (hi : ∀ b h, Q b h → R b h) : Wp x R := by
  unfold Wp at *
  split at h
  · exact hi _ _ h
  · exact h
theorem Wp.get {β : Type} {x : Option (β × Hs)} {Q : β → Hs → Prop} (h : Wp x Q) : ∃ b hs, x = some (b, hs) ∧ Q b hs := by
  unfold Wp at h
  split at h
  · exact ⟨_, _, rfl, h⟩
  · exact h.elim
/-- told so: as a lemma that is no proof by computation (else the kernel compares what comes next with what was, and may run deep) -/
theorem wp_of {β : Type} {x : Option (β × Hs)} {b : β} {h : Hs} {Q : β → Hs → Prop} (e : x = some (b, h)) : Wp x Q = Q b h := by
  rw [e]
  rfl
/-- told, and nothing raised -/
def okq {α : Type} (K : α → Hs → Prop) : Except Ex α → Hs → Prop := fun r h => match r with
  | .ok a => K a h
  | .error _ => False
def onOk {α β : Type} (f : α → M β) (Q : Except Ex β → Hs → Prop) : Except Ex α → Hs → Prop := fun r h => match r with
  | .ok a => Wp (f a h) Q
  | .error e => Q (.error e) h
def onEx {α : Type} (k : α → Ev → S) (e : Ev) (Q : Fl → Hs → Prop) : Except Ex α → Hs → Prop := fun r h => match r with
  | .ok a => Wp (k a e h) Q
  | .error x => Q (.exc x e) h
def onNx (g : Ev → S) (Q : Fl → Hs → Prop) : Fl → Hs → Prop := fun r h => match r with
  | .nx e => Wp (g e h) Q
  | r => Q r h
def onRun (Q : Except Ex D → Hs → Prop) : Fl → Hs → Prop := fun r h => match r with
  | .nx _ => Q (.ok .non) h
  | .ret d => Q (.ok d) h
  | .exc x _ => Q (.error x) h
  | _ => False
section
variable {α β : Type} {hs h : Hs}
@[simp] theorem wp_some {b : β} {Q : β → Hs → Prop} : Wp (some (b, hs)) Q = Q b hs := rfl
@[simp] theorem wp_none {Q : β → Hs → Prop} : Wp none Q = False := rfl
@[simp] theorem wp_ite {c : Prop} [Decidable c] {x y : Option (β × Hs)} {Q : β → Hs → Prop} : Wp (if c then x else y) Q = ((c → Wp x Q) ∧ (¬ c → Wp y Q)) := by
  by_cases h : c <;> simp [h]
@[simp] theorem wp_iteS {c : Prop} [Decidable c] {g1 g2 : Ev → S} {e : Ev} {Q : Fl → Hs → Prop} : Wp ((if c then g1 else g2) e hs) Q = ((c → Wp (g1 e hs) Q) ∧ (¬ c → Wp (g2 e hs) Q)) := by
  by_cases h : c <;> simp [h]
@[simp] theorem wp_iteM {c : Prop} [Decidable c] {x y : M β} {Q : Except Ex β → Hs → Prop} : Wp ((if c then x else y) hs) Q = ((c → Wp (x hs) Q) ∧ (¬ c → Wp (y hs) Q)) := by
  by_cases h : c <;> simp [h]
@[simp] theorem okq_ok {K : α → Hs → Prop} {a : α} : okq K (.ok a) h = K a h := rfl
@[simp] theorem okq_err {K : α → Hs → Prop} {e : Ex} : okq K (.error e) h = False := rfl
@[simp] theorem onOk_ok {f : α → M β} {Q : Except Ex β → Hs → Prop} {a : α} : onOk f Q (.ok a) h = Wp (f a h) Q := rfl
@[simp] theorem onOk_err {f : α → M β} {Q : Except Ex β → Hs → Prop} {e : Ex} : onOk f Q (.error e) h = Q (.error e) h := rfl
@[simp] theorem onEx_ok {k : α → Ev → S} {e : Ev} {Q : Fl → Hs → Prop} {a : α} : onEx k e Q (.ok a) h = Wp (k a e h) Q := rfl
@[simp] theorem onEx_err {k : α → Ev → S} {e : Ev} {Q : Fl → Hs → Prop} {x : Ex} : onEx k e Q (.error x) h = Q (.exc x e) h := rfl
@[simp] theorem onNx_nx {g : Ev → S} {Q : Fl → Hs → Prop} {e : Ev} : onNx g Q (.nx e) h = Wp (g e h) Q := rfl
@[simp] theorem onNx_ret {g : Ev → S} {Q : Fl → Hs → Prop} {d : D} : onNx g Q (.ret d) h = Q (.ret d) h := rfl
@[simp] theorem onNx_bk {g : Ev → S} {Q : Fl → Hs → Prop} {e : Ev} : onNx g Q (.bk e) h = Q (.bk e) h := rfl
@[simp] theorem onNx_ct {g : Ev → S} {Q : Fl → Hs → Prop} {e : Ev} : onNx g Q (.ct e) h = Q (.ct e) h := rfl
@[simp] theorem onNx_exc {g : Ev → S} {Q : Fl → Hs → Prop} {x : Ex} {e : Ev} : onNx g Q (.exc x e) h = Q (.exc x e) h := rfl
@[simp] theorem onRun_nx {Q : Except Ex D → Hs → Prop} {e : Ev} : onRun Q (.nx e) h = Q (.ok .non) h := rfl
@[simp] theorem onRun_ret {Q : Except Ex D → Hs → Prop} {d : D} : onRun Q (.ret d) h = Q (.ok d) h := rfl
@[simp] theorem onRun_exc {Q : Except Ex D → Hs → Prop} {x : Ex} {e : Ev} : onRun Q (.exc x e) h = Q (.error x) h := rfl
@[simp] theorem wp_bind {x : M α} {f : α → M β} {Q : Except Ex β → Hs → Prop} : Wp (M.bind x f hs) Q = Wp (x hs) (onOk f Q) := by
  unfold M.bind
  cases x hs with
  | none => rfl
  | some r => obtain ⟨r, h⟩ := r; cases r <;> rfl
@[simp] theorem wp_pure {a : α} {Q : Except Ex α → Hs → Prop} : Wp (M.pure a hs) Q = Q (.ok a) hs := rfl
@[simp] theorem wp_stuck {Q : Except Ex α → Hs → Prop} : Wp ((M.stuck : M α) hs) Q = False := rfl
@[simp] theorem wp_lift {p : P α} {Q : Except Ex α → Hs → Prop} : Wp (M.lift p hs) Q = Wp (p hs) (fun a h => Q (.ok a) h) := by
  unfold M.lift
  cases p hs <;> rfl
@[simp] theorem wp_ppure {a : α} {Q : α → Hs → Prop} : Wp (P.pure a hs) Q = Q a hs := rfl
@[simp] theorem wp_pstuck {Q : α → Hs → Prop} : Wp ((P.stuck : P α) hs) Q = False := rfl
@[simp] theorem wp_expr {f : Ev → M α} {k : α → Ev → S} {e : Ev} {Q : Fl → Hs → Prop} : Wp (exprS f k e hs) Q = Wp (f e hs) (onEx k e Q) := by
  unfold exprS
  cases f e hs with
  | none => rfl
  | some r => obtain ⟨r, h⟩ := r; cases r <;> rfl
@[simp] theorem wp_seq {g1 g2 : Ev → S} {e : Ev} {Q : Fl → Hs → Prop} : Wp (seqS g1 g2 e hs) Q = Wp (g1 e hs) (onNx g2 Q) := by
  unfold seqS
  cases g1 e hs with
  | none => rfl
  | some r => obtain ⟨r, h⟩ := r; cases r <;> rfl
@[simp] theorem wp_next {e : Ev} {Q : Fl → Hs → Prop} : Wp (nextS e hs) Q = Q (.nx e) hs := rfl
@[simp] theorem wp_run {n : Nat} {b : Ev → S} {ds : List D} {Q : Except Ex D → Hs → Prop} : Wp (runB n b ds hs) Q = Wp (b (startE n ds) hs) (onRun Q) := by
  unfold runB
  cases b (startE n ds) hs with
  | none => rfl
  | some r => obtain ⟨r, h⟩ := r; cases r <;> rfl
/-! ### expressions -/
variable {e : Ev} {fa fb fc : Ev → M D} {Q : Except Ex D → Hs → Prop}
@[simp] theorem wp_op2 {f : D → D → P D} : Wp (op2 f fa fb e hs) Q = Wp (fa e hs) (onOk (fun x => M.bind (fb e) fun y => M.lift (f x y)) Q) := by
  unfold op2; rw [wp_bind]
@[simp] theorem wp_op3 {f g : D → D → P D} : Wp (op3 f g fa fb fc e hs) Q = Wp (fa e hs) (onOk (fun x => M.bind (fb e) fun y => M.bind (M.lift (f x y)) fun z => M.bind (boolOf z) fun k => if k = true then M.bind (fc e) fun w => M.lift (g y w) else M.pure (.bl false)) Q) := by
  unfold op3; rw [wp_bind]
@[simp] theorem boolOf_bl {b : Bool} : boolOf (.bl b) = M.pure b := rfl
@[simp] theorem wp_asTest {Q : Except Ex Bool → Hs → Prop} : Wp (asTest fa e hs) Q = Wp (fa e hs) (onOk boolOf Q) := by
  unfold asTest; rw [wp_bind]
@[simp] theorem wp_truth {Q : Except Ex Bool → Hs → Prop} : Wp (truth fa e hs) Q = Wp (fa e hs) (onOk truM Q) := by
  unfold truth; rw [wp_bind]
@[simp] theorem truM_bl {b : Bool} {Q : Except Ex Bool → Hs → Prop} : Wp (truM (.bl b) hs) Q = Q (.ok b) hs := rfl
@[simp] theorem truM_int {i : Int} {Q : Except Ex Bool → Hs → Prop} : Wp (truM (.int i) hs) Q = Q (.ok (i != 0)) hs := rfl
@[simp] theorem truM_non {Q : Except Ex Bool → Hs → Prop} : Wp (truM .non hs) Q = Q (.ok false) hs := rfl
@[simp] theorem truM_tup {xs : List D} {Q : Except Ex Bool → Hs → Prop} : Wp (truM (.tup xs) hs) Q = Q (.ok (!xs.isEmpty)) hs := rfl
@[simp] theorem wp_notM {f : Ev → M Bool} {Q : Except Ex Bool → Hs → Prop} : Wp (notM f e hs) Q = Wp (f e hs) (onOk (fun b => M.pure (!b)) Q) := by
  unfold notM; rw [wp_bind]
@[simp] theorem wp_notV : Wp (notV fa e hs) Q = Wp (fa e hs) (onOk (fun x => M.bind (truM x) fun b => M.pure (.bl (!b))) Q) := by
  unfold notV; rw [wp_bind]
@[simp] theorem wp_negV : Wp (negV fa e hs) Q = Wp (fa e hs) (onOk negD Q) := by
  unfold negV; rw [wp_bind]
@[simp] theorem negD_int {i : Int} : negD (.int i) = M.pure (.int (-i)) := rfl
@[simp] theorem wp_ifV {f : Ev → M Bool} {ga gb : Ev → M α} {Q : Except Ex α → Hs → Prop} : Wp (ifV f ga gb e hs) Q = Wp (f e hs) (onOk (fun k => if k = true then ga e else gb e) Q) := by
  unfold ifV; rw [wp_bind]
@[simp] theorem wp_andM {f g : Ev → M Bool} {Q : Except Ex Bool → Hs → Prop} : Wp (andM f g e hs) Q = Wp (f e hs) (onOk (fun k => if k = true then g e else M.pure false) Q) := by
  unfold andM; rw [wp_bind]
@[simp] theorem wp_orM {f g : Ev → M Bool} {Q : Except Ex Bool → Hs → Prop} : Wp (orM f g e hs) Q = Wp (f e hs) (onOk (fun k => if k = true then M.pure true else g e) Q) := by
  unfold orM; rw [wp_bind]
@[simp] theorem wp_andV : Wp (andV fa fb e hs) Q = Wp (fa e hs) (onOk (fun x => M.bind (truM x) fun k => if k = true then fb e else M.pure x) Q) := by
  unfold andV; rw [wp_bind]
@[simp] theorem wp_orV : Wp (orV fa fb e hs) Q = Wp (fa e hs) (onOk (fun x => M.bind (truM x) fun k => if k = true then M.pure x else fb e) Q) := by
  unfold orV; rw [wp_bind]
@[simp] theorem wp_cons {gs : Ev → M (List D)} {Q : Except Ex (List D) → Hs → Prop} : Wp (consM fa gs e hs) Q = Wp (fa e hs) (onOk (fun x => M.bind (gs e) fun xs => M.pure (x :: xs)) Q) := by
  unfold consM; rw [wp_bind]
@[simp] theorem wp_tup {gs : Ev → M (List D)} : Wp (tupM gs e hs) Q = Wp (gs e hs) (onOk (fun xs => if xs.length ≤ sizeLine then M.pure (.tup xs) else M.stuck) Q) := by
  unfold tupM; rw [wp_bind]
@[simp] theorem wp_lst {gs : Ev → M (List D)} : Wp (lstM gs e hs) Q = Wp (gs e hs) (onOk (fun xs => if xs.length ≤ sizeLine then M.lift (newL xs) else M.stuck) Q) := by
  unfold lstM; rw [wp_bind]
@[simp] theorem wp_newL {xs : List D} {Q : D → Hs → Prop} : Wp (newL xs hs) Q = Q (.loc hs.length) (hs ++ [.lst xs]) := rfl
@[simp] theorem wp_slice {fl fh : Ev → M (Option Int)} : Wp (sliceM fa fl fh e hs) Q = Wp (fa e hs) (onOk (fun x => M.bind (fl e) fun lo => M.bind (fh e) fun hi => M.lift (sliceD x lo hi)) Q) := by
  unfold sliceM; rw [wp_bind]
@[simp] theorem partD_int {i : Int} : partD (.int i) = M.pure (some i) := rfl
@[simp] theorem wp_rev : Wp (revM fa e hs) Q = Wp (fa e hs) (onOk (fun x => M.lift (revD x)) Q) := by
  unfold revM; rw [wp_bind]
@[simp] theorem wp_callM {f : List D → P D} {gs : Ev → M (List D)} : Wp (callM f gs e hs) Q = Wp (gs e hs) (onOk (fun xs => M.lift (f xs)) Q) := by
  unfold callM; rw [wp_bind]
@[simp] theorem wp_callF {n : Nat} {f : List D → M D} {gs : Ev → M (List D)} : Wp (callF n f gs e hs) Q = Wp (gs e hs) (onOk (fun xs => if xs.length = n then f xs else M.stuck) Q) := by
  unfold callF; rw [wp_bind]
@[simp] theorem wp_methM {T : String} {f : D → List D → P D} {gs : Ev → M (List D)} : Wp (methM T f fa gs e hs) Q = Wp (fa e hs) (onOk (fun x => M.bind (chkTy T x) fun _ => M.bind (gs e) fun xs => M.lift (f x xs)) Q) := by
  unfold methM; rw [wp_bind]
@[simp] theorem wp_var {i : Nat} : Wp (varD i e hs) Q = (∃ d, e[i]? = some (some d) ∧ Q (.ok d) hs) := by
  unfold varD
  cases h : e[i]? with
  | none => simp
  | some o => cases o <;> simp
/-! ### statements -/
variable {R : Fl → Hs → Prop}
@[simp] theorem wp_ifS {f : Ev → M Bool} {g1 g2 : Ev → S} : Wp (ifS f g1 g2 e hs) R = Wp (f e hs) (onEx (fun k => if k = true then g1 else g2) e R) := by
  unfold ifS; rw [wp_expr]
@[simp] theorem wp_ret : Wp (retS fa e hs) R = Wp (fa e hs) (onEx (fun d _ hs => some (.ret d, hs)) e R) := by
  unfold retS; rw [wp_expr]
@[simp] theorem wp_drop : Wp (dropS fa e hs) R = Wp (fa e hs) (onEx (fun _ => nextS) e R) := by
  unfold dropS; rw [wp_expr]
def asgK (t : Tg) (d : D) : Ev → S := fun e hs => match asg t d e with
  | some e2 => some (.nx e2, hs)
  | none => none
def setK (o i v : D) : Ev → S := fun e hs => match setIxD o i v hs with
  | some (.non, h1) => some (.nx e, h1)
  | _ => none
def augK (op : Operator) (n : Nat) (x y : D) : Ev → S := fun e hs => match augD op x y hs with
  | some (z, h1) => some (.nx (e.set n (some z)), h1)
  | none => none
def bodyK (t : Tg) (g : Ev → S) (d : D) : Ev → S := fun e hs => match asg t d e with
  | some e2 => g e2 hs
  | none => none
@[simp] theorem wp_asgS {t : Tg} : Wp (asgS t fa e hs) R = Wp (fa e hs) (onEx (asgK t) e R) := wp_expr (k := asgK t)
@[simp] theorem wp_setS : Wp (setS fa fb fc e hs) R = Wp (fa e hs) (onEx (fun v => exprS fb fun o => exprS fc fun i => setK o i v) e R) := wp_expr (k := fun v => exprS fb fun o => exprS fc fun i => setK o i v)
@[simp] theorem wp_augS {op : Operator} {n : Nat} : Wp (augS op n fa e hs) R = Wp (varD n e hs) (onEx (fun x => exprS fa fun y => augK op n x y) e R) := wp_expr (k := fun x => exprS fa fun y => augK op n x y)
@[simp] theorem wp_loop {t : Tg} {fi : Ev → M Src} {g : Ev → S} : Wp (loopS t fi g e hs) R = Wp (fi e hs) (onEx (fun src => forS src.ok (bodyK t g) src.items) e R) := wp_expr (k := fun (src : Src) => forS src.ok (bodyK t g) src.items)
@[simp] theorem asgK_one {i : Nat} {d : D} : Wp (asgK (.one i) d e hs) R = R (.nx (e.set i (some d))) hs := wp_of rfl
@[simp] theorem asgK_many {is : List Nat} {ds : List D} : Wp (asgK (.many is) (.tup ds) e hs) R = (is.length = ds.length ∧ R (.nx (sets e is ds)) hs) := by
  unfold asgK asg
  by_cases h : is.length = ds.length <;> simp [h]
@[simp] theorem bodyK_one {g : Ev → S} {i : Nat} {d : D} : bodyK (.one i) g d e = g (e.set i (some d)) := by
  have h : bodyK (.one i) g = fun d e => g (e.set i (some d)) := funext fun d => funext fun e => rfl
  exact congrFun (congrFun h d) e
@[simp] theorem bodyK_many {g : Ev → S} {is : List Nat} {ds : List D} : Wp (bodyK (.many is) g (.tup ds) e hs) R = (is.length = ds.length ∧ Wp (g (sets e is ds) hs) R) := by
  unfold bodyK asg
  by_cases h : is.length = ds.length <;> simp [h]
@[simp] theorem sets_cons {i : Nat} {is : List Nat} {d : D} {ds : List D} : sets e (i :: is) (d :: ds) = sets (e.set i (some d)) is ds := rfl
@[simp] theorem sets_nil {ds : List D} : sets e [] ds = e := by cases ds <;> rfl
@[simp] theorem startE_eq {n : Nat} {ds : List D} : startE n ds = ds.map some ++ List.replicate (n - ds.length) none := rfl
/-! ### errors -/
@[simp] theorem wp_raise0 {x : Str} : Wp (raise0 x e hs) R = R (.exc ⟨x, []⟩ e) hs := rfl
@[simp] theorem wp_raise1_int {x f : Str} {i : Int} : Wp (raise1 x f (.int i) e hs) R = R (.exc ⟨x, [(f, .int i)]⟩ e) hs := rfl
@[simp] theorem wp_raise1_str {x f y : Str} : Wp (raise1 x f (.str y) e hs) R = R (.exc ⟨x, [(f, .str y)]⟩ e) hs := rfl
/-- what is asked behind a try's body -/
def onTry (k : Ex → Ev → S) (Q : Fl → Hs → Prop) : Fl → Hs → Prop := fun r h => match r with
  | .exc x e => Wp (k x e h) Q
  | r => Q r h
@[simp] theorem onTry_nx {k : Ex → Ev → S} : onTry k R (.nx e) hs = R (.nx e) hs := rfl
@[simp] theorem onTry_ret {k : Ex → Ev → S} {d : D} : onTry k R (.ret d) hs = R (.ret d) hs := rfl
@[simp] theorem onTry_bk {k : Ex → Ev → S} : onTry k R (.bk e) hs = R (.bk e) hs := rfl
@[simp] theorem onTry_ct {k : Ex → Ev → S} : onTry k R (.ct e) hs = R (.ct e) hs := rfl
@[simp] theorem onTry_exc {k : Ex → Ev → S} {x : Ex} : onTry k R (.exc x e) hs = Wp (k x e hs) R := rfl
@[simp] theorem wp_try {g : Ev → S} {k : Ex → Ev → S} : Wp (tryS g k e hs) R = Wp (g e hs) (onTry k R) := by
  unfold tryS
  cases g e hs with
  | none => rfl
  | some r => obtain ⟨r, h⟩ := r; cases r <;> rfl
theorem wp_suite {o : Option Nat} {x : Ex} {g : Tk → Ev → S} (r : Fl) (h : Hs) (q : ∀ t, Wp (g t (putV o (.exv t x.cls x.arg) e) hs) fun f h' => stripF o f = some r ∧ h' = h) (k : R r h) : Wp (suiteK o x g e hs) R := by
  have key : ∀ run' : Tk → Option (Fl × Hs), (∀ t, run' t = some (r, h)) → tryK run' = some (r, h) := fun run' hr => by
    unfold tryK
    have ex : ∃ r, ∀ t, run' t = some r := ⟨(r, h), hr⟩
    rw [dif_pos ex]
    have z := Classical.choose_spec ex ⟨0, .none, none⟩
    rw [hr] at z
    rw [← Option.some.inj z]
  have z : suiteK o x g e hs = some (r, h) := key _ fun t => by
    obtain ⟨f, h', e1, e2, rfl⟩ := (q t).get
    simp only [e1, e2, Option.map_some]
  rw [z]
  exact k
/-! ### data -/
theorem ans {b : Bool} : answers (some b) hs = some (.bl b, hs) := rfl
theorem eqDd_of {a b : D} {p q : PyData} (h1 : a.data hs = some p) (h2 : b.data hs = some q) (s1 : SeqAt.shaped p = true) (s2 : SeqAt.shaped q = true) : eqDd hs a b = some (PyData.eqv p q) := by
  unfold eqDd
  rw [h1, h2]
  simp [s1, s2]
theorem eqv_ss {i j : Str} : PyData.eqv (.str i) (.str j) = decide (i = j) := by
  unfold PyData.eqv
  by_cases e : i = j <;> simp [e]
theorem eqD_of {a b : D} {p q : PyData} (h1 : a.data hs = some p) (h2 : b.data hs = some q) (s1 : SeqAt.shaped p = true) (s2 : SeqAt.shaped q = true) : eqD hs a b = some (PyData.eqv p q) := by
  unfold eqD
  split
  · cases h1; cases h2
    rw [eqv_ss]
  · exact eqDd_of h1 h2 s1 s2
@[simp] theorem eq_ii {i j : Int} : eqD hs (.int i) (.int j) = some (decide (i = j)) := rfl
@[simp] theorem eq_str {i j : Str} : eqD hs (.str i) (.str j) = some (decide (i = j)) := rfl
theorem eq_ss {i j : Str} (h1 : PyData.canLay0 (.str i) = true) (h2 : PyData.canLay0 (.str j) = true) : eqD hs (.str i) (.str j) = some (decide (i = j)) := rfl
@[simp] theorem eq_bb {i j : Bool} : eqD hs (.bl i) (.bl j) = some (decide (i = j)) := by cases i <;> cases j <;> rfl
end
end DL
set_option Elab.async false
set_option linter.all false
set_option maxRecDepth 100000
set_option maxHeartbeats 4000000
namespace DL
open PySem PySem.Spec PyProof.Rows L2

/-! ## reading the heap -/
def cell (hs : Hs) (n : Nat) : Option O := hs[n]?
@[simp] theorem cell_eq {hs : Hs} {n : Nat} : hs[n]? = cell hs n := rfl
theorem cell_lt {hs : Hs} {n : Nat} {o : O} (e : cell hs n = some o) : n < hs.length := (List.getElem?_eq_some_iff.mp e).1
@[simp] theorem cell_set_self {hs : Hs} {n : Nat} {o : O} (h : n < hs.length) : cell (hs.set n o) n = some o := List.getElem?_set_self h
@[simp] theorem cell_set_ne {hs : Hs} {n m : Nat} {o : O} (h : n ≠ m) : cell (hs.set n o) m = cell hs m := List.getElem?_set_ne h
@[simp] theorem cell_push {hs : Hs} {o : O} : cell (hs ++ [o]) hs.length = some o := by
  unfold cell
  simp
@[simp] theorem cell_push_lt {hs : Hs} {n : Nat} {o : O} (h : n < hs.length) : cell (hs ++ [o]) n = cell hs n := List.getElem?_append_left h
theorem cell_app {hs ys : Hs} {k : Nat} : cell (hs ++ ys) (hs.length + k) = ys[k]? := by
  unfold cell
  rw [List.getElem?_append_right (by omega), Nat.add_sub_cancel_left]
@[simp] theorem cell_app0 {hs : Hs} {y : O} {ys : Hs} : cell (hs ++ y :: ys) hs.length = some y := cell_app (k := 0)
@[simp] theorem cell_app1 {hs : Hs} {x y : O} {ys : Hs} : cell (hs ++ x :: y :: ys) (hs.length + 1) = some y := cell_app (k := 1)
@[simp] theorem cell_app2 {hs : Hs} {x y z : O} {ys : Hs} : cell (hs ++ x :: y :: z :: ys) (hs.length + 1 + 1) = some z := cell_app (k := 2)
@[simp] theorem cell_app_lt {hs ys : Hs} {n : Nat} (h : n < hs.length) : cell (hs ++ ys) n = cell hs n := List.getElem?_append_left h
@[simp] theorem le_sz {n : Nat} (h : n ≤ 1000) : (n ≤ sizeLine) = True := eq_true (Nat.le_of_lt (small1000 h))
@[simp] theorem lt_sz {n : Nat} (h : n ≤ 1000) : (n < sizeLine) = True := eq_true (small1000 h)
/-! ## loops -/
def onTurn (J : Ev → Hs → Prop) (R : Fl → Hs → Prop) : Fl → Hs → Prop := fun r h => match r with
  | .nx e => J e h
  | .ct e => J e h
  | .bk e => R (.nx e) h
  | r => R r h
section
variable {J : Ev → Hs → Prop} {R : Fl → Hs → Prop} {h hs : Hs} {e : Ev}
@[simp] theorem onTurn_nx : onTurn J R (.nx e) h = J e h := rfl
@[simp] theorem onTurn_ct : onTurn J R (.ct e) h = J e h := rfl
@[simp] theorem onTurn_bk : onTurn J R (.bk e) h = R (.nx e) h := rfl
@[simp] theorem onTurn_ret {d : D} : onTurn J R (.ret d) h = R (.ret d) h := rfl
@[simp] theorem onTurn_exc {x : Ex} : onTurn J R (.exc x e) h = R (.exc x e) h := rfl
theorem wp_for_at {ok : Hs → Prop} {body : D → Ev → S} {items : List D} (I : Nat → Ev → Hs → Prop) (step : ∀ i d e hs, items[i]? = some d → I i e hs → ok hs ∧ Wp (body d e hs) (onTurn (I (i + 1)) R)) (fin : ∀ e hs, I items.length e hs → ok hs ∧ R (.nx e) hs) :
    ∀ (k i : Nat) (e : Ev) (hs : Hs), items.length - i = k → i ≤ items.length → I i e hs → Wp (forS ok body (items.drop i) e hs) R
  | 0, i, e, hs, hk, hi, h => by
    have : i = items.length := by omega
    subst this
    rw [List.drop_length]
    obtain ⟨h1, h2⟩ := fin e hs h
    simp only [forS, if_pos h1]
    exact h2
  | k + 1, i, e, hs, hk, hi, h => by
    have hlt : i < items.length := by omega
    rw [List.drop_eq_getElem_cons hlt]
    obtain ⟨h1, h2⟩ := step i items[i] e hs (by simp [hlt]) h
    simp only [forS, if_pos h1]
    obtain ⟨r, h', e1, q⟩ := h2.get
    rw [e1]
    cases r with
    | nx e2 => exact wp_for_at I step fin k (i + 1) e2 h' (by omega) (by omega) q
    | ct e2 => exact wp_for_at I step fin k (i + 1) e2 h' (by omega) (by omega) q
    | bk e2 => exact q
    | ret d => exact q
    | exc x e2 => exact q
/-- THE RULE for a for-loop: an invariant by the turn -/
theorem wp_for {ok : Hs → Prop} {body : D → Ev → S} {items : List D} (I : Nat → Ev → Hs → Prop) (h0 : I 0 e hs) (step : ∀ i d e hs, items[i]? = some d → I i e hs → ok hs ∧ Wp (body d e hs) (onTurn (I (i + 1)) R)) (fin : ∀ e hs, I items.length e hs → ok hs ∧ R (.nx e) hs) :
    Wp (forS ok body items e hs) R := by
  have q := wp_for_at I step fin _ 0 e hs rfl (Nat.zero_le _) h0
  simpa using q
/-- THE RULE for a while-loop: an invariant with a measure -/
theorem wp_while {t : Ev → M Bool} {b : Ev → S} (I : Nat → Ev → Hs → Prop) (step : ∀ k e hs, I k e hs → Wp (t e hs) (fun r h => match r with
      | .ok true => Wp (b e h) (onTurn (fun e2 h2 => ∃ k2, k2 < k ∧ I k2 e2 h2) R)
      | .ok false => R (.nx e) h
      | .error x => R (.exc x e) h)) : ∀ (k : Nat) (e : Ev) (hs : Hs), I k e hs → Wp (whileS t b e hs) R := by
  intro k
  induction k using Nat.strongRecOn with
  | _ k ih =>
    intro e hs h
    obtain ⟨r, h1, e1, q⟩ := (step k e hs h).get
    have fin : ∀ {r h2}, whileF t b 1 e hs = some (r, h2) → R r h2 → Wp (whileS t b e hs) R := fun {r h2} a q => by rw [whileS_of a]; exact q
    cases r with
    | error x => exact fin (r := .exc x e) (h2 := h1) (by unfold whileF; rw [e1]) q
    | ok c =>
      cases c with
      | false => exact fin (r := .nx e) (h2 := h1) (by unfold whileF; rw [e1]) q
      | true =>
        obtain ⟨r, h2, e2, q⟩ := Wp.get q
        have again : ∀ {e3}, (r = .nx e3 ∨ r = .ct e3) → (∃ k2, k2 < k ∧ I k2 e3 h2) → Wp (whileS t b e hs) R := fun {e3} hr ⟨k2, hk, h3⟩ => by
          obtain ⟨r', h3, e4, q'⟩ := (ih k2 hk e3 h2 h3).get
          obtain ⟨n, e5⟩ := whileS_inv e4
          have : whileF t b (n + 1) e hs = some (r', h3) := by
            unfold whileF
            rw [e1]
            simp only [e2]
            rcases hr with rfl | rfl <;> exact e5
          rw [whileS_of this]
          exact q'
        cases r with
        | nx e3 => exact again (.inl rfl) q
        | ct e3 => exact again (.inr rfl) q
        | bk e3 => exact fin (r := .nx e3) (h2 := h2) (by unfold whileF; rw [e1]; simp only [e2]) q
        | ret d => exact fin (r := .ret d) (h2 := h2) (by unfold whileF; rw [e1]; simp only [e2]) q
        | exc x e3 => exact fin (r := .exc x e3) (h2 := h2) (by unfold whileF; rw [e1]; simp only [e2]) q
end
/-! ## comprehensions -/
section
variable {hs : Hs}
theorem wp_comp_at {ok : Hs → Prop} {turn : D → M (Option D)} {items : List D} {Q : List D → Hs → Prop} (I : Nat → List D → Hs → Prop)
    (step : ∀ i d acc hs, items[i]? = some d → I i acc hs → ok hs ∧ Wp (turn d hs) (okq fun o h => match o with
      | some y => acc.length < sizeLine ∧ I (i + 1) (acc ++ [y]) h
      | none => I (i + 1) acc h)) (fin : ∀ acc hs, I items.length acc hs → ok hs ∧ Q acc hs) :
    ∀ (k i : Nat) (acc : List D) (hs : Hs), items.length - i = k → i ≤ items.length → I i acc hs → Wp (compS ok turn (items.drop i) acc hs) Q
  | 0, i, acc, hs, hk, hi, h => by
    have : i = items.length := by omega
    subst this
    rw [List.drop_length]
    obtain ⟨h1, h2⟩ := fin acc hs h
    simp only [compS, if_pos h1]
    exact h2
  | k + 1, i, acc, hs, hk, hi, h => by
    have hlt : i < items.length := by omega
    rw [List.drop_eq_getElem_cons hlt]
    obtain ⟨h1, h2⟩ := step i items[i] acc hs (by simp [hlt]) h
    simp only [compS, if_pos h1]
    obtain ⟨r, h', e1, q⟩ := h2.get
    rw [e1]
    cases r with
    | error x => exact q.elim
    | ok o =>
      cases o with
      | none => exact wp_comp_at I step fin k (i + 1) acc h' (by omega) (by omega) q
      | some y =>
        obtain ⟨q1, q2⟩ : acc.length < sizeLine ∧ I (i + 1) (acc ++ [y]) h' := q
        simp only [if_pos q1]
        exact wp_comp_at I step fin k (i + 1) _ h' (by omega) (by omega) q2
/-- THE RULE for a comprehension: an invariant by the turn and what is gathered -/
theorem wp_comp {ok : Hs → Prop} {turn : D → M (Option D)} {items : List D} {Q : List D → Hs → Prop} (I : Nat → List D → Hs → Prop) (h0 : I 0 [] hs)
    (step : ∀ i d acc hs, items[i]? = some d → I i acc hs → ok hs ∧ Wp (turn d hs) (okq fun o h => match o with
      | some y => acc.length < sizeLine ∧ I (i + 1) (acc ++ [y]) h
      | none => I (i + 1) acc h)) (fin : ∀ acc hs, I items.length acc hs → ok hs ∧ Q acc hs) : Wp (compS ok turn items [] hs) Q := by
  have q := wp_comp_at I step fin _ 0 [] hs rfl (Nat.zero_le _) h0
  simpa using q
variable {e : Ev} {Q : Except Ex D → Hs → Prop}
@[simp] theorem wp_compM {own : List Nat} {t : Tg} {fi : Ev → M Src} {ft : Ev → M Bool} {fe : Ev → M D} : Wp (compM own t fi ft fe e hs) Q = Wp (fi e hs) (onOk (fun src => M.bind (M.lift (compS src.ok (turnM t ft fe (wipeE e own)) src.items [])) fun xs => M.lift (newL xs)) Q) := by
  unfold compM; rw [wp_bind]
def turnK (fe : Ev → M D) (e : Ev) (b : Bool) : M (Option D) := if b = true then M.bind (fe e) fun y => M.pure (some y) else M.pure none
@[simp] theorem turnM_one {i : Nat} {ft : Ev → M Bool} {fe : Ev → M D} {ew : Ev} {d : D} : turnM (.one i) ft fe ew d = M.bind (ft (ew.set i (some d))) (turnK fe (ew.set i (some d))) := rfl
@[simp] theorem turnM_many {is : List Nat} {ft : Ev → M Bool} {fe : Ev → M D} {ew : Ev} {ds : List D} {Q : Except Ex (Option D) → Hs → Prop} : Wp (turnM (.many is) ft fe ew (.tup ds) hs) Q = (is.length = ds.length ∧ Wp (ft (sets ew is ds) hs) (onOk (turnK fe (sets ew is ds)) Q)) := by
  unfold turnM asg
  by_cases h : is.length = ds.length
  · simp only [h, if_true, true_and]
    exact wp_bind
  · simp [h]
@[simp] theorem turnK_true {fe : Ev → M D} : turnK fe e true = M.bind (fe e) fun y => M.pure (some y) := rfl
@[simp] theorem turnK_false {fe : Ev → M D} : turnK fe e false = M.pure none := rfl
@[simp] theorem wipeE_nil : wipeE e [] = e := rfl
@[simp] theorem wipeE_cons {v : Nat} {vs : List Nat} : wipeE e (v :: vs) = (wipeE e vs).set v none := rfl
end
/-! ## what is walked -/
section
variable {hs : Hs} {e : Ev} {Q : Except Ex Src → Hs → Prop}
@[simp] theorem wp_seqM {f : Ev → M D} : Wp (seqM f e hs) Q = Wp (f e hs) (onOk seqSrc Q) := by
  unfold seqM; rw [wp_bind]
@[simp] theorem wp_rngM {k : Nat} {fs : Ev → M (List D)} : Wp (rngM k fs e hs) Q = Wp (fs e hs) (onOk (fun xs => if xs.length = k then rngSrc xs else M.stuck) Q) := by
  unfold rngM; rw [wp_bind]
@[simp] theorem wp_src_tup {xs : List D} : Wp (seqSrc (.tup xs) hs) Q = Q (.ok ⟨xs, fun _ => True⟩) hs := rfl
@[simp] theorem wp_src_frl {xs : List D} : Wp (seqSrc (.frl xs) hs) Q = Q (.ok ⟨xs, fun _ => True⟩) hs := rfl
@[simp] theorem wp_src_str {x : Str} : Wp (seqSrc (.str x) hs) Q = Q (.ok ⟨signs x, fun _ => True⟩) hs := rfl
@[simp] theorem wp_src_loc {n : Nat} : Wp (seqSrc (.loc n) hs) Q = (∃ xs, cell hs n = some (.lst xs) ∧ Q (.ok ⟨xs, fun h => cell h n = some (.lst xs)⟩) hs) := by
  unfold seqSrc
  simp only [cell_eq]
  cases h : cell hs n with
  | none => simp
  | some o => cases o <;> simp
@[simp] theorem wp_rng1 {j : Int} : Wp (rngSrc [.int j] hs) Q = ((-(2 ^ 62) ≤ j ∧ j < 2 ^ 62) ∧ Q (.ok ⟨intL 0 j.toNat, fun _ => True⟩) hs) := by
  unfold rngSrc
  simp only
  by_cases h : -(2 ^ 62) ≤ j ∧ j < 2 ^ 62
  · rw [if_pos h]; simp only [h, true_and]; rfl
  · rw [if_neg h]; simp only [h, false_and]; rfl
@[simp] theorem wp_rng2 {i j : Int} : Wp (rngSrc [.int i, .int j] hs) Q = (((-(2 ^ 62) ≤ i ∧ i < 2 ^ 62) ∧ (-(2 ^ 62) ≤ j ∧ j < 2 ^ 62)) ∧ Q (.ok ⟨intL i (j - i).toNat, fun _ => True⟩) hs) := by
  unfold rngSrc
  simp only
  by_cases h : (-(2 ^ 62) ≤ i ∧ i < 2 ^ 62) ∧ (-(2 ^ 62) ≤ j ∧ j < 2 ^ 62)
  · rw [if_pos h]; simp only [h, true_and]; rfl
  · rw [if_neg h]; simp only [h, false_and]; rfl
@[simp] theorem wp_rng3 {i j c : Int} : Wp (rngSrc3 [.int i, .int j, .int c] hs) Q = (((0 < c ∧ c < 1073741824) ∧ Builtin.Range.small i j c = true ∧ 0 ≤ Builtin.Range.rangeSize i j c) ∧ Q (.ok ⟨stepL i c (Builtin.Range.rangeSize i j c).toNat, fun _ => True⟩) hs) := by
  unfold rngSrc3
  simp only
  by_cases h : (0 < c ∧ c < 1073741824) ∧ Builtin.Range.small i j c = true ∧ 0 ≤ Builtin.Range.rangeSize i j c
  · rw [if_pos h]; simp only [h, true_and]; rfl
  · rw [if_neg h]; simp only [h, false_and]; rfl
@[simp] theorem wp_enum_tup {xs : List D} : Wp (enumSrc [.tup xs] hs) Q = Q (.ok ⟨enumL 0 xs, fun _ => True⟩) hs := rfl
@[simp] theorem wp_enum_frl {xs : List D} : Wp (enumSrc [.frl xs] hs) Q = Q (.ok ⟨enumL 0 xs, fun _ => True⟩) hs := rfl
@[simp] theorem wp_enum_loc {n : Nat} : Wp (enumSrc [.loc n] hs) Q = (∃ xs, cell hs n = some (.lst xs) ∧ Q (.ok ⟨enumL 0 xs, fun h => cell h n = some (.lst xs)⟩) hs) := by
  unfold enumSrc seqAt
  simp only [cell_eq]
  cases h : cell hs n with
  | none => simp
  | some o => cases o <;> simp
@[simp] theorem wp_zip_tup {xs ys : List D} : Wp (zipSrc [.tup xs, .tup ys] hs) Q = Q (.ok ⟨zipL xs ys, fun _ => True ∧ True⟩) hs := rfl
theorem wp_zip_loc {n m : Nat} : Wp (zipSrc [.loc n, .loc m] hs) Q = (∃ xs ys, cell hs n = some (.lst xs) ∧ cell hs m = some (.lst ys) ∧ Q (.ok ⟨zipL xs ys, fun h => cell h n = some (.lst xs) ∧ cell h m = some (.lst ys)⟩) hs) := by
  unfold zipSrc seqAt
  simp only [cell_eq]
  cases h : cell hs n with
  | none => simp
  | some o =>
    cases h2 : cell hs m with
    | none => cases o <;> simp
    | some o2 => cases o <;> cases o2 <;> simp [bothTup]
theorem enumL_at {xs : List D} {i : Nat} {d : D} (h : (enumL 0 xs)[i]? = some d) : ∃ x, xs[i]? = some x ∧ d = .tup [.int (i : Nat), x] := by
  rw [enumL_get] at h
  obtain ⟨x, e, rfl⟩ := Option.map_eq_some_iff.mp h
  exact ⟨x, e, by simp⟩
theorem intL_at {lo : Int} {n i : Nat} {d : D} (h : (intL lo n)[i]? = some d) : i < n ∧ d = .int (lo + i) := by
  have hi : i < n := by
    have := (List.getElem?_eq_some_iff.mp h).1
    simpa [intL_len] using this
  rw [intL_get hi] at h
  exact ⟨hi, (Option.some.inj h).symm⟩
end
/-! ## what stays -/
/-- the heap has grown, written at places of S alone -/
structure Gr (S : List Nat) (hs h : Hs) : Prop where
  le : hs.length ≤ h.length
  at_ : ∀ n, n < hs.length → n ∉ S → cell h n = cell hs n
theorem Gr.refl {S : List Nat} {hs : Hs} : Gr S hs hs := ⟨Nat.le_refl _, fun _ _ _ => rfl⟩
theorem Gr.trans {S : List Nat} {a b c : Hs} (h : Gr S a b) (k : Gr S b c) : Gr S a c := ⟨Nat.le_trans h.le k.le, fun n hn hS => (k.at_ n (Nat.lt_of_lt_of_le hn h.le) hS).trans (h.at_ n hn hS)⟩
theorem Gr.push {S : List Nat} {hs : Hs} {o : O} : Gr S hs (hs ++ [o]) := ⟨by simp, fun n hn _ => cell_push_lt hn⟩
theorem Gr.app {S : List Nat} {hs ys : Hs} : Gr S hs (hs ++ ys) := ⟨by simp, fun n hn _ => cell_app_lt hn⟩
theorem Gr.set {S : List Nat} {hs : Hs} {n : Nat} {o : O} (h : n ∈ S) : Gr S hs (hs.set n o) := ⟨by simp, fun m _ hm => cell_set_ne (fun q => hm (by rw [← q]; exact h))⟩
theorem Gr.get {S : List Nat} {hs h : Hs} (g : Gr S hs h) {n : Nat} {o : O} (e : cell hs n = some o) (hn : n ∉ S) : cell h n = some o := by
  rw [g.at_ n (cell_lt e) hn]; exact e
theorem Gr.mono {S T : List Nat} {hs h : Hs} (g : Gr S hs h) (hS : ∀ n ∈ S, n ∈ T) : Gr T hs h := ⟨g.le, fun n hn hT => g.at_ n hn fun q => hT (hS n q)⟩
/-! ## reading and writing -/
section
variable {hs : Hs} {Q : D → Hs → Prop}
@[simp] theorem wp_ix_loc {n : Nat} {i : Int} : Wp (ixD (.loc n) (.int i) hs) Q = (∃ xs, cell hs n = some (.lst xs) ∧ ∃ d, atI xs i = some d ∧ Q d hs) := by
  unfold ixD listOf
  simp only [cell_eq]
  cases h : cell hs n with
  | none => simp
  | some o =>
    cases o <;> simp
    rename_i xs
    cases h2 : atI xs i <;> simp
@[simp] theorem wp_ix_tup {xs : List D} {i : Int} : Wp (ixD (.tup xs) (.int i) hs) Q = (∃ d, atI xs i = some d ∧ Q d hs) := by
  unfold ixD
  simp only
  cases h2 : atI xs i <;> simp
@[simp] theorem wp_ix_frl {xs : List D} {i : Int} : Wp (ixD (.frl xs) (.int i) hs) Q = (∃ d, atI xs i = some d ∧ Q d hs) := by
  unfold ixD listOf
  simp only
  cases h2 : atI xs i <;> simp
theorem atI_lit {α : Type} {xs : List α} {k : Nat} : atI xs (k : Int) = xs[k]? := by
  unfold atI ixN
  rw [if_pos (by omega)]
  by_cases h : k < xs.length
  · rw [if_pos (by omega)]; rfl
  · rw [if_neg (by omega), List.getElem?_eq_none (by omega)]; rfl
@[simp] theorem atI_0 {α : Type} {xs : List α} : atI xs (0 : Int) = xs[0]? := atI_lit (k := 0)
@[simp] theorem atI_1 {α : Type} {xs : List α} : atI xs (1 : Int) = xs[1]? := atI_lit (k := 1)
@[simp] theorem atI_2 {α : Type} {xs : List α} : atI xs (2 : Int) = xs[2]? := atI_lit (k := 2)
@[simp] theorem atI_3 {α : Type} {xs : List α} : atI xs (3 : Int) = xs[3]? := atI_lit (k := 3)
@[simp] theorem atI_4 {α : Type} {xs : List α} : atI xs (4 : Int) = xs[4]? := atI_lit (k := 4)
@[simp] theorem atI_5 {α : Type} {xs : List α} : atI xs (5 : Int) = xs[5]? := atI_lit (k := 5)
@[simp] theorem atI_6 {α : Type} {xs : List α} : atI xs (6 : Int) = xs[6]? := atI_lit (k := 6)
@[simp] theorem atI_7 {α : Type} {xs : List α} : atI xs (7 : Int) = xs[7]? := atI_lit (k := 7)
@[simp] theorem atI_8 {α : Type} {xs : List α} : atI xs (8 : Int) = xs[8]? := atI_lit (k := 8)
@[simp] theorem atI_9 {α : Type} {xs : List α} : atI xs (9 : Int) = xs[9]? := atI_lit (k := 9)
@[simp] theorem atI_10 {α : Type} {xs : List α} : atI xs (10 : Int) = xs[10]? := atI_lit (k := 10)
@[simp] theorem atI_11 {α : Type} {xs : List α} : atI xs (11 : Int) = xs[11]? := atI_lit (k := 11)
@[simp] theorem atI_12 {α : Type} {xs : List α} : atI xs (12 : Int) = xs[12]? := atI_lit (k := 12)
theorem atI_nat {α : Type} {xs : List α} {i : Int} {x : α} (h : xs[i.toNat]? = some x) (h0 : 0 ≤ i) : atI xs i = some x := by
  have hl := (List.getElem?_eq_some_iff.mp h).1
  unfold atI ixN
  rw [if_pos h0, if_pos (by omega)]
  exact h
theorem ixN_nat {n : Nat} {i : Int} (h0 : 0 ≤ i) (h : i < n) : ixN n i = some i.toNat := by
  unfold ixN
  rw [if_pos h0, if_pos h]
@[simp] theorem wp_setK {n : Nat} {i : Int} {v : D} {e : Ev} {R : Fl → Hs → Prop} : Wp (setK (.loc n) (.int i) v e hs) R = (∃ xs, cell hs n = some (.lst xs) ∧ ∃ j, ixN xs.length i = some j ∧ R (.nx e) (hs.set n (.lst (xs.set j v)))) := by
  unfold setK setIxD
  simp only [cell_eq]
  cases h : cell hs n with
  | none => simp
  | some o =>
    cases o <;> simp
    rename_i xs
    cases h2 : ixN xs.length i <;> simp
theorem ixN_lit {n k : Nat} (h : k < n) : ixN n (k : Int) = some k := by
  unfold ixN
  rw [if_pos (by omega), if_pos (by omega)]; rfl
theorem ixN_of {n k : Nat} : ixN n (k : Int) = if k < n then some k else none := by
  by_cases h : k < n
  · rw [if_pos h]; exact ixN_lit h
  · rw [if_neg h]
    unfold ixN
    rw [if_pos (by omega), if_neg (by omega)]
@[simp] theorem ixN_0 {n : Nat} : ixN n (0 : Int) = if 0 < n then some 0 else none := ixN_of (k := 0)
@[simp] theorem ixN_1 {n : Nat} : ixN n (1 : Int) = if 1 < n then some 1 else none := ixN_of (k := 1)
@[simp] theorem ixN_2 {n : Nat} : ixN n (2 : Int) = if 2 < n then some 2 else none := ixN_of (k := 2)
@[simp] theorem ixN_3 {n : Nat} : ixN n (3 : Int) = if 3 < n then some 3 else none := ixN_of (k := 3)
@[simp] theorem ixN_4 {n : Nat} : ixN n (4 : Int) = if 4 < n then some 4 else none := ixN_of (k := 4)
@[simp] theorem ixN_5 {n : Nat} : ixN n (5 : Int) = if 5 < n then some 5 else none := ixN_of (k := 5)
@[simp] theorem ixN_6 {n : Nat} : ixN n (6 : Int) = if 6 < n then some 6 else none := ixN_of (k := 6)
@[simp] theorem ixN_7 {n : Nat} : ixN n (7 : Int) = if 7 < n then some 7 else none := ixN_of (k := 7)
@[simp] theorem ixN_8 {n : Nat} : ixN n (8 : Int) = if 8 < n then some 8 else none := ixN_of (k := 8)
@[simp] theorem ixN_9 {n : Nat} : ixN n (9 : Int) = if 9 < n then some 9 else none := ixN_of (k := 9)
@[simp] theorem ixN_10 {n : Nat} : ixN n (10 : Int) = if 10 < n then some 10 else none := ixN_of (k := 10)
@[simp] theorem ixN_11 {n : Nat} : ixN n (11 : Int) = if 11 < n then some 11 else none := ixN_of (k := 11)
@[simp] theorem ixN_12 {n : Nat} : ixN n (12 : Int) = if 12 < n then some 12 else none := ixN_of (k := 12)
@[simp] theorem wp_len_loc {n : Nat} : Wp (lenD [.loc n] hs) Q = (∃ xs, cell hs n = some (.lst xs) ∧ Q (.int xs.length) hs) := by
  unfold lenD listOf
  simp only [cell_eq]
  cases h : cell hs n with
  | none => simp
  | some o => cases o <;> simp
@[simp] theorem wp_len_tup {xs : List D} : Wp (lenD [.tup xs] hs) Q = Q (.int xs.length) hs := wp_of rfl
@[simp] theorem wp_len_frl {xs : List D} : Wp (lenD [.frl xs] hs) Q = Q (.int xs.length) hs := wp_of rfl
@[simp] theorem wp_int {i : Int} : Wp (intD [.int i] hs) Q = Q (.int i) hs := rfl
@[simp] theorem wp_intS {x : Str} : Wp (intD [.str x] hs) Q = (∃ n, intTxt x = some n ∧ Q (.int n) hs) := by
  unfold intD
  simp only
  cases h : intTxt x <;> simp
@[simp] theorem wp_len_str {x : Str} : Wp (lenD [.str x] hs) Q = (x.length ≤ sizeLine ∧ Q (.int x.length) hs) := by
  unfold lenD
  simp only
  by_cases h : x.length ≤ sizeLine <;> simp [h]
@[simp] theorem wp_ix_str {x : Str} {i : Int} : Wp (ixD (.str x) (.int i) hs) Q = (x.length ≤ sizeLine ∧ ∃ c, atI x.cps.toList i = some c ∧ Q (.str ⟨#[c]⟩) hs) := by
  unfold ixD
  simp only
  by_cases h : x.length ≤ sizeLine
  · simp only [h, if_true, true_and]
    cases h2 : atI x.cps.toList i <;> simp
  · simp [h]
@[simp] theorem wp_strI {i : Int} : Wp (strD [.int i] hs) Q = (i.natAbs.log2 < 1920 ∧ Q (.str (toString i)) hs) := by
  unfold strD
  simp only
  by_cases h : i.natAbs.log2 < 1920
  · rw [if_pos h]; simp only [h, true_and]; rfl
  · rw [if_neg h]; simp only [h, false_and]; rfl
@[simp] theorem wp_join_loc {a : Str} {n : Nat} : Wp (joinD (.str a) [.loc n] hs) Q = (∃ xs, cell hs n = some (.lst xs) ∧ ∃ ys, strsD xs = some ys ∧ joinOk a ys ∧ Q (.str (Txt.join a ys)) hs) := by
  unfold joinD itemsOf listOf
  simp only [cell_eq]
  cases h : cell hs n with
  | none => simp
  | some o =>
    cases o <;> simp
    rename_i xs
    cases e : strsD xs with
    | none => simp
    | some ys => by_cases hj : joinOk a ys <;> simp [hj]
theorem strsD_map : ∀ ys : List Str, strsD (ys.map .str) = some ys
  | [] => rfl
  | y :: ys => by simp [strsD, strsD_map ys]
@[simp] theorem wp_split {a b : Str} : Wp (splitD (.str a) [.str b] hs) Q = (((b.length == 0) = false ∧ a.length + 2 ≤ sizeLine) ∧ Q (.loc hs.length) (hs ++ [.lst ((Txt.split a b).map .str)])) := by
  unfold splitD newL
  simp only
  by_cases h : (b.length == 0) = false ∧ a.length + 2 ≤ sizeLine
  · rw [if_pos h]; simp only [h, true_and]; rfl
  · rw [if_neg h]; simp only [h, false_and]; rfl
@[simp] theorem wp_str_add {x y : Str} : Wp (binD .Add (.str x) (.str y) hs) Q = (x.length + y.length ≤ sizeLine ∧ Q (.str (x ++ y)) hs) := by
  unfold binD addD
  simp only
  by_cases h : x.length + y.length ≤ sizeLine
  · rw [if_pos h]; simp only [h, true_and]; rfl
  · rw [if_neg h]; simp only [h, false_and]; rfl
@[simp] theorem wp_str_mul {x : Str} {k : Int} : Wp (binD .Mult (.str x) (.int k) hs) Q = ((0 ≤ k ∧ k ≤ 1000 ∧ x.length ≤ 1000) ∧ Q (.str (strTimes x k.toNat)) hs) := by
  unfold binD mulD
  simp only
  by_cases h : 0 ≤ k ∧ k ≤ 1000 ∧ x.length ≤ 1000
  · rw [if_pos h]; simp only [h, true_and]; rfl
  · rw [if_neg h]; simp only [h, false_and]; rfl
@[simp] theorem wp_chk_str {x : Str} {Q : Except Ex Unit → Hs → Prop} : Wp (chkTy "str" (.str x) hs) Q = Q (.ok ()) hs := by
  unfold chkTy tyD
  simp
@[simp] theorem in_ss {x y : Str} : inD hs (.str x) (.str y) = some (!(Builtin.Str.occurrences y x 0 y.length 1).isEmpty) := rfl
@[simp] theorem truM_str {x : Str} {Q : Except Ex Bool → Hs → Prop} : Wp (truM (.str x) hs) Q = (x.length ≤ sizeLine ∧ Q (.ok ((x.length : Int) != 0)) hs) := by
  unfold truM truD
  by_cases h : x.length ≤ sizeLine <;> simp [h]
@[simp] theorem wp_abs {i : Int} : Wp (absD [.int i] hs) Q = Q (.int (if i < 0 then -i else i)) hs := rfl
@[simp] theorem wp_max {i j : Int} : Wp (maxD [.int i, .int j] hs) Q = Q (.int (if j > i then j else i)) hs := rfl
@[simp] theorem wp_min {i j : Int} : Wp (minD [.int i, .int j] hs) Q = Q (.int (if j < i then j else i)) hs := rfl
@[simp] theorem wp_tuple_tup {xs : List D} : Wp (tupleD [.tup xs] hs) Q = Q (.tup xs) hs := rfl
@[simp] theorem wp_tuple_frl {xs : List D} : Wp (tupleD [.frl xs] hs) Q = Q (.tup xs) hs := rfl
@[simp] theorem wp_tuple_loc {n : Nat} : Wp (tupleD [.loc n] hs) Q = (∃ xs, cell hs n = some (.lst xs) ∧ Q (.tup xs) hs) := by
  unfold tupleD listOf
  simp only [cell_eq]
  cases h : cell hs n with
  | none => simp
  | some o => cases o <;> simp
@[simp] theorem wp_list_tup {xs : List D} : Wp (listD [.tup xs] hs) Q = Q (.loc hs.length) (hs ++ [.lst xs]) := rfl
@[simp] theorem wp_list_loc {n : Nat} : Wp (listD [.loc n] hs) Q = (∃ xs, cell hs n = some (.lst xs) ∧ Q (.loc hs.length) (hs ++ [.lst xs])) := by
  unfold listD listOf newL
  simp only [cell_eq]
  cases h : cell hs n with
  | none => simp
  | some o => cases o <;> simp
@[simp] theorem wp_all_loc {n : Nat} : Wp (allD [.loc n] hs) Q = (∃ xs, cell hs n = some (.lst xs) ∧ ∃ bs, flags xs = some bs ∧ Q (.bl (bs.all id)) hs) := by
  unfold allD listOf
  simp only [cell_eq]
  cases h : cell hs n with
  | none => simp
  | some o =>
    cases o <;> simp
    rename_i xs
    cases flags xs <;> simp
@[simp] theorem wp_any_loc {n : Nat} : Wp (anyD [.loc n] hs) Q = (∃ xs, cell hs n = some (.lst xs) ∧ ∃ bs, flags xs = some bs ∧ Q (.bl (bs.any id)) hs) := by
  unfold anyD listOf
  simp only [cell_eq]
  cases h : cell hs n with
  | none => simp
  | some o =>
    cases o <;> simp
    rename_i xs
    cases flags xs <;> simp
theorem flags_bl : ∀ (bs : List Bool), flags (bs.map .bl) = some bs
  | [] => rfl
  | b :: bs => by simp [flags, flags_bl bs]
@[simp] theorem wp_app_loc {n : Nat} {d : D} : Wp (appendD (.loc n) [d] hs) Q = (∃ xs, cell hs n = some (.lst xs) ∧ xs.length < sizeLine ∧ Q .non (hs.set n (.lst (xs ++ [d])))) := by
  unfold appendD
  simp only [cell_eq]
  cases h : cell hs n with
  | none => simp
  | some o =>
    cases o <;> simp
    rename_i xs
    by_cases hz : xs.length < sizeLine <;> simp [hz]
@[simp] theorem wp_ext_loc {n k : Nat} : Wp (extendD (.loc n) [.loc k] hs) Q = (∃ xs ys, cell hs n = some (.lst xs) ∧ cell hs k = some (.lst ys) ∧ xs.length + ys.length ≤ sizeLine ∧ Q .non (hs.set n (.lst (xs ++ ys)))) := by
  unfold extendD
  simp only [cell_eq]
  cases h : cell hs n with
  | none => simp
  | some o =>
    cases h2 : cell hs k with
    | none => cases o <;> simp
    | some o2 =>
      cases o <;> cases o2 <;> simp
      rename_i xs ys
      by_cases hz : xs.length + ys.length ≤ sizeLine <;> simp [hz]
@[simp] theorem wp_rev_tup {xs : List D} : Wp (revD (.tup xs) hs) Q = Q (.tup xs.reverse) hs := rfl
@[simp] theorem wp_rev_frl {xs : List D} : Wp (revD (.frl xs) hs) Q = Q (.loc hs.length) (hs ++ [.lst xs.reverse]) := rfl
@[simp] theorem wp_rev_loc {n : Nat} : Wp (revD (.loc n) hs) Q = (∃ xs, cell hs n = some (.lst xs) ∧ Q (.loc hs.length) (hs ++ [.lst xs.reverse])) := by
  unfold revD listOf newL
  simp only [cell_eq]
  cases h : cell hs n with
  | none => simp
  | some o => cases o <;> simp
@[simp] theorem wp_max_loc {n : Nat} : Wp (maxD [.loc n] hs) Q = (∃ xs, cell hs n = some (.lst xs) ∧ ∃ a ns, intsD xs = some (a :: ns) ∧ Q (.int (topI (a :: ns))) hs) := by
  unfold maxD ofInts listOf
  simp only [cell_eq]
  cases h : cell hs n with
  | none => simp
  | some o =>
    cases o <;> simp
    rename_i xs
    cases e : intsD xs with
    | none => simp
    | some ns =>
      cases ns with
      | nil => simp
      | cons b r =>
        simp only [Option.some.injEq, List.cons.injEq]
        exact ⟨fun q => ⟨b, r, ⟨rfl, rfl⟩, q⟩, fun ⟨_, _, ⟨e1, e2⟩, q⟩ => by subst e1; subst e2; exact q⟩
@[simp] theorem wp_min_loc {n : Nat} : Wp (minD [.loc n] hs) Q = (∃ xs, cell hs n = some (.lst xs) ∧ ∃ a ns, intsD xs = some (a :: ns) ∧ Q (.int (lowI (a :: ns))) hs) := by
  unfold minD ofInts listOf
  simp only [cell_eq]
  cases h : cell hs n with
  | none => simp
  | some o =>
    cases o <;> simp
    rename_i xs
    cases e : intsD xs with
    | none => simp
    | some ns =>
      cases ns with
      | nil => simp
      | cons b r =>
        simp only [Option.some.injEq, List.cons.injEq]
        exact ⟨fun q => ⟨b, r, ⟨rfl, rfl⟩, q⟩, fun ⟨_, _, ⟨e1, e2⟩, q⟩ => by subst e1; subst e2; exact q⟩
theorem wp_pop_loc {n : Nat} {xs : List D} {y : D} (h : cell hs n = some (.lst (xs ++ [y]))) : Wp (popD (.loc n) [] hs) Q = Q y (hs.set n (.lst xs)) := by
  unfold popD
  simp only [cell_eq, h]
  simp
theorem wp_repr {d : D} {p : PyData} (h : d.data hs = some p) (h1 : p.showable = true) (h2 : p.hasDict = false) (h3 : p.depth ≤ 60) (h4 : p.shown.length ≤ sizeLine) : Wp (reprD [d] hs) Q = Q (.str p.shown) hs := by
  unfold reprD
  simp [h, h1, h2, h3, h4]
theorem wp_index {x y : D} {ps : List PyData} {p : PyData} {j : Nat} (h1 : x.data hs = some (.list ps)) (h2 : y.data hs = some p) (s1 : SeqAt.shaped (.list ps) = true) (s2 : SeqAt.shaped p = true) (hj : ps.findIdx? (fun z => PyData.eqv z p) = some j) : Wp (indexD x [y] hs) Q = Q (.int (j : Nat)) hs := by
  unfold indexD
  simp [h1, h2, s1, s2, hj]
@[simp] theorem wp_nilDict {e : Ev} {Q : Except Ex D → Hs → Prop} : Wp (nilDict e hs) Q = Q (.ok (.loc hs.length)) (hs ++ [.dct []]) := rfl
@[simp] theorem wp_chk_lst {n : Nat} {Q : Except Ex Unit → Hs → Prop} : Wp (chkTy "list" (.loc n) hs) Q = ((∃ xs, cell hs n = some (.lst xs)) ∧ Q (.ok ()) hs) := by
  unfold chkTy tyD
  simp only [cell_eq]
  cases h : cell hs n with
  | none => simp
  | some o => cases o <;> simp
@[simp] theorem wp_slice_tup {xs : List D} {lo hi : Option Int} : Wp (sliceD (.tup xs) lo hi hs) Q = Q (.tup (cutD xs lo hi)) hs := rfl
@[simp] theorem wp_slice_frl {xs : List D} {lo hi : Option Int} : Wp (sliceD (.frl xs) lo hi hs) Q = Q (.loc hs.length) (hs ++ [.lst (cutD xs lo hi)]) := rfl
@[simp] theorem wp_slice_loc {n : Nat} {lo hi : Option Int} : Wp (sliceD (.loc n) lo hi hs) Q = (∃ xs, cell hs n = some (.lst xs) ∧ Q (.loc hs.length) (hs ++ [.lst (cutD xs lo hi)])) := by
  unfold sliceD listOf newL
  simp only [cell_eq]
  cases h : cell hs n with
  | none => simp
  | some o => cases o <;> simp
@[simp] theorem wp_ans {c : Bool} : Wp (answers (some c) hs) Q = Q (.bl c) hs := rfl
theorem wp_tup_mul {xs : List D} {k : Int} (h : 0 ≤ k ∧ k ≤ 1000 ∧ xs.length ≤ 1000) : Wp (binD .Mult (.tup xs) (.int k) hs) Q = Q (.tup (List.replicate k.toNat xs).flatten) hs := by
  unfold binD mulD
  simp only
  rw [if_pos h]; rfl
@[simp] theorem wp_tup_add {xs ys : List D} : Wp (binD .Add (.tup xs) (.tup ys) hs) Q = (xs.length + ys.length ≤ sizeLine ∧ Q (.tup (xs ++ ys)) hs) := by
  unfold binD addD
  simp only
  by_cases h : xs.length + ys.length ≤ sizeLine
  · rw [if_pos h]; simp only [h, true_and]; rfl
  · rw [if_neg h]; simp only [h, false_and]; rfl
@[simp] theorem wp_lst_add {n m : Nat} : Wp (binD .Add (.loc n) (.loc m) hs) Q = (∃ xs ys, cell hs n = some (.lst xs) ∧ cell hs m = some (.lst ys) ∧ xs.length + ys.length ≤ sizeLine ∧ Q (.loc hs.length) (hs ++ [.lst (xs ++ ys)])) := by
  unfold binD addD newL
  simp only [cell_eq]
  cases h : cell hs n with
  | none => simp
  | some o =>
    cases h2 : cell hs m with
    | none => cases o <;> simp
    | some o2 =>
      cases o <;> cases o2 <;> simp
      rename_i xs ys
      by_cases hz : xs.length + ys.length ≤ sizeLine <;> simp [hz]
/-! numbers -/
@[simp] theorem add_ii {i j : Int} : binD .Add (.int i) (.int j) = P.pure (.int (i + j)) := rfl
@[simp] theorem sub_ii {i j : Int} : binD .Sub (.int i) (.int j) = P.pure (.int (i - j)) := rfl
def mulOk (i j : Int) : Prop := ((-(2 ^ 64) < i ∧ i < 2 ^ 64) ∨ (-(2 ^ 64) < j ∧ j < 2 ^ 64)) ∨ (i.natAbs < 2 ^ 9000 ∧ j.natAbs < 2 ^ 9000)
def divOk (j : Int) : Prop := 0 < j ∧ j.natAbs < 2 ^ 9000
def big : Nat := 2 ^ 9000
theorem small_big : 2 ^ 64 ≤ big := by decide +kernel
theorem mulOk.r {i j : Int} (h1 : -(2 ^ 64) < j) (h2 : j < 2 ^ 64) : mulOk i j := .inl (.inr ⟨h1, h2⟩)
theorem mulOk.l {i j : Int} (h1 : -(2 ^ 64) < i) (h2 : i < 2 ^ 64) : mulOk i j := .inl (.inl ⟨h1, h2⟩)
theorem divOk.of {j : Int} (h1 : 0 < j) (h2 : j.natAbs < big) : divOk j := ⟨h1, h2⟩
theorem divOk.small {j : Int} (h1 : 0 < j) (h2 : j < 2 ^ 64) : divOk j := ⟨h1, Nat.lt_of_lt_of_le (by omega) small_big⟩
@[simp] theorem mul_ii {i j : Int} : Wp (binD .Mult (.int i) (.int j) hs) Q = (mulOk i j ∧ Q (.int (i * j)) hs) := by
  unfold binD mulD
  simp only
  unfold mulOk
  by_cases h : ((-(2 ^ 64) < i ∧ i < 2 ^ 64) ∨ (-(2 ^ 64) < j ∧ j < 2 ^ 64)) ∨ (i.natAbs < 2 ^ 9000 ∧ j.natAbs < 2 ^ 9000)
  · rw [if_pos h]; simp only [h, true_and]; rfl
  · rw [if_neg h]; simp only [h, false_and]; rfl
@[simp] theorem fdiv_ii {i j : Int} : Wp (binD .FloorDiv (.int i) (.int j) hs) Q = (divOk j ∧ Q (.int (i / j)) hs) := by
  unfold binD fdivD
  simp only
  unfold divOk
  by_cases h : 0 < j ∧ j.natAbs < 2 ^ 9000
  · rw [if_pos h]; simp only [h, true_and]; rfl
  · rw [if_neg h]; simp only [h, false_and]; rfl
@[simp] theorem mod_ii {i j : Int} : Wp (binD .Mod (.int i) (.int j) hs) Q = (0 < j ∧ Q (.int (i % j)) hs) := by
  unfold binD modD
  simp only
  by_cases h : 0 < j
  · rw [if_pos h]; simp only [h, true_and]; rfl
  · rw [if_neg h]; simp only [h, false_and]; rfl
@[simp] theorem pow_ii {i j : Int} : Wp (binD .Pow (.int i) (.int j) hs) Q = ((0 ≤ j ∧ j ≤ 1000000 ∧ i.natAbs < 2 ^ 64) ∧ Q (.int (i ^ j.toNat)) hs) := by
  unfold binD powD
  simp only
  by_cases h : 0 ≤ j ∧ j ≤ 1000000 ∧ i.natAbs < 2 ^ 64
  · rw [if_pos h]; simp only [h, true_and]; rfl
  · rw [if_neg h]; simp only [h, false_and]; rfl
@[simp] theorem lt_ii {i j : Int} : cmpD .Lt (.int i) (.int j) = P.pure (.bl (decide (i < j))) := rfl
@[simp] theorem le_ii {i j : Int} : cmpD .LtE (.int i) (.int j) = P.pure (.bl (decide (i ≤ j))) := rfl
@[simp] theorem gt_ii {i j : Int} : cmpD .Gt (.int i) (.int j) = P.pure (.bl (decide (j < i))) := rfl
@[simp] theorem ge_ii {i j : Int} : cmpD .GtE (.int i) (.int j) = P.pure (.bl (decide (j ≤ i))) := rfl
@[simp] theorem is_none {d : D} : cmpD .Is d .non = P.pure (.bl (isN d)) := by cases d <;> rfl
@[simp] theorem isnot_none {d : D} : cmpD .IsNot d .non = P.pure (.bl (!isN d)) := by cases d <;> rfl
@[simp] theorem is_bb {x y : Bool} : cmpD .Is (.bl x) (.bl y) = P.pure (.bl (decide (x = y))) := rfl
@[simp] theorem isnot_bb {x y : Bool} : cmpD .IsNot (.bl x) (.bl y) = P.pure (.bl (!decide (x = y))) := rfl
@[simp] theorem isN_str {x : Str} : isN (.str x) = false := rfl
@[simp] theorem isN_bl {b : Bool} : isN (.bl b) = false := rfl
@[simp] theorem isN_loc {n : Nat} : isN (.loc n) = false := rfl
@[simp] theorem isN_frl {xs : List D} : isN (.frl xs) = false := rfl
@[simp] theorem isN_non : isN .non = true := rfl
@[simp] theorem isN_int {i : Int} : isN (.int i) = false := rfl
@[simp] theorem isN_tup {xs : List D} : isN (.tup xs) = false := rfl
@[simp] theorem wp_cmpEq {a b : D} : Wp (cmpD .Eq a b hs) Q = Wp (answers (match eqD hs a b with | some c => some c | none => eqNil hs a b) hs) Q := rfl
@[simp] theorem wp_cmpNe {a b : D} : Wp (cmpD .NotEq a b hs) Q = Wp (answers ((eqD hs a b).map (!·)) hs) Q := rfl
@[simp] theorem wp_cmpIn {a b : D} : Wp (cmpD .In a b hs) Q = Wp (answers (match inD hs a b with | some c => some c | none => inN hs a b) hs) Q := rfl
@[simp] theorem wp_cmpNotIn {a b : D} : Wp (cmpD .NotIn a b hs) Q = Wp (answers ((match inD hs a b with | some c => some c | none => inN hs a b).map (!·)) hs) Q := rfl
end
end DL
set_option Elab.async false
set_option linter.all false
set_option maxRecDepth 100000
set_option maxHeartbeats 4000000
namespace DL
open PySem PySem.Spec PyProof.Rows L2

/-! ## the pot: drawing numbers -/
noncomputable def b__law_pot : Ev → S := (seqS (asgS (.one 1) (compM [2] (.one 2) (seqM (sliceM (varD 0) (fun _ => M.pure none) (fun v => M.bind ((fun _ => M.pure (.int 63)) v) partD))) (fun _ => M.pure true) (callM absD (consM (callM intD (consM (varD 2) (fun _ => M.pure []))) (fun _ => M.pure [])))))
  (seqS (retS (lstM (consM (varD 1) (consM (fun _ => M.pure (.int 0)) (consM (fun _ => M.pure (.int 0)) (consM (op2 (binD .Add) (fun _ => M.pure (.int 1)) (callM lenD (consM (varD 1) (fun _ => M.pure [])))) (consM (fun _ => M.pure (.int 0)) (fun _ => M.pure []))))))))
  nextS))
noncomputable def r__law_pot : List D → M D := runB 3 b__law_pot

noncomputable def b__law_draw : Ev → S := (seqS (ifS (andM (asTest (op2 (cmpD .Eq) (op2 ixD (varD 0) (fun _ => M.pure (.int 2))) (fun _ => M.pure (.int 0)))) (asTest (op2 (cmpD .Lt) (op2 ixD (varD 0) (fun _ => M.pure (.int 1))) (callM lenD (consM (op2 ixD (varD 0) (fun _ => M.pure (.int 0))) (fun _ => M.pure []))))))
  (seqS (asgS (.one 2) (op2 ixD (op2 ixD (varD 0) (fun _ => M.pure (.int 0))) (op2 ixD (varD 0) (fun _ => M.pure (.int 1)))))
  (seqS (setS (op2 (binD .Add) (op2 ixD (varD 0) (fun _ => M.pure (.int 1))) (fun _ => M.pure (.int 1))) (varD 0) (fun _ => M.pure (.int 1)))
  (seqS (setS (op2 (binD .Mod) (callM intD (consM (op2 (binD .Add) (op2 (binD .Add) (op2 (binD .Mult) (op2 ixD (varD 0) (fun _ => M.pure (.int 3))) (fun _ => M.pure (.int 69621))) (varD 2)) (fun _ => M.pure (.int 11))) (fun _ => M.pure []))) (fun _ => M.pure (.int 2147483629))) (varD 0) (fun _ => M.pure (.int 3)))
  (seqS (ifS (asTest (op2 (cmpD .GtE) (varD 2) (op2 (binD .Pow) (fun _ => M.pure (.int 10)) (fun _ => M.pure (.int 18)))))
  (seqS (setS (varD 2) (varD 0) (fun _ => M.pure (.int 2)))
  nextS)
  nextS)
  nextS))))
  nextS)
  (seqS (ifS (asTest (op2 (cmpD .Gt) (op2 ixD (varD 0) (fun _ => M.pure (.int 2))) (fun _ => M.pure (.int 0))))
  (seqS (asgS (.one 3) (op2 (binD .Mod) (callM intD (consM (op2 ixD (varD 0) (fun _ => M.pure (.int 2))) (fun _ => M.pure []))) (varD 1)))
  (seqS (setS (op2 (binD .FloorDiv) (op2 ixD (varD 0) (fun _ => M.pure (.int 2))) (varD 1)) (varD 0) (fun _ => M.pure (.int 2)))
  (seqS (retS (varD 3))
  nextS)))
  nextS)
  (seqS (setS (op2 (binD .Add) (op2 ixD (varD 0) (fun _ => M.pure (.int 4))) (fun _ => M.pure (.int 1))) (varD 0) (fun _ => M.pure (.int 4)))
  (seqS (asgS (.one 4) (op2 (binD .Mod) (callM intD (consM (op2 (binD .Mult) (callM intD (consM (op2 (binD .Add) (op2 ixD (varD 0) (fun _ => M.pure (.int 3))) (op2 (binD .Mult) (fun _ => M.pure (.int 7919)) (op2 ixD (varD 0) (fun _ => M.pure (.int 4))))) (fun _ => M.pure []))) (fun _ => M.pure (.int 48271))) (fun _ => M.pure []))) (fun _ => M.pure (.int 2147483647))))
  (seqS (asgS (.one 4) (op2 (binD .Mod) (callM intD (consM (op2 (binD .Mult) (varD 4) (op2 (binD .Add) (op2 (binD .FloorDiv) (varD 4) (fun _ => M.pure (.int 1009))) (fun _ => M.pure (.int 69621)))) (fun _ => M.pure []))) (fun _ => M.pure (.int 2147483647))))
  (seqS (asgS (.one 4) (op2 (binD .Mod) (callM intD (consM (op2 (binD .Mult) (varD 4) (op2 (binD .Add) (op2 (binD .FloorDiv) (varD 4) (fun _ => M.pure (.int 2003))) (fun _ => M.pure (.int 40692)))) (fun _ => M.pure []))) (fun _ => M.pure (.int 2147483399))))
  (seqS (retS (op2 (binD .Mod) (callM intD (consM (op2 (binD .FloorDiv) (varD 4) (fun _ => M.pure (.int 16))) (fun _ => M.pure []))) (varD 1)))
  nextS)))))))
noncomputable def r__law_draw : List D → M D := runB 5 b__law_draw

noncomputable def b__law_any : Ev → S := (seqS (retS (op2 ixD (varD 1) (callF 2 r__law_draw (consM (varD 0) (consM (callM lenD (consM (varD 1) (fun _ => M.pure []))) (fun _ => M.pure []))))))
  nextS)
noncomputable def r__law_any : List D → M D := runB 2 b__law_any
/-- the pot lies at p -/
def Pot (p : Nat) (hs : Hs) : Prop := ∃ (c : Nat) (cells : List Int) (a b s t : Int), c < p ∧ cell hs c = some (.lst (cells.map .int)) ∧ cell hs p = some (.lst [.loc c, .int a, .int b, .int s, .int t]) ∧ 0 ≤ a
theorem Pot.lt {p : Nat} {hs : Hs} (h : Pot p hs) : p < hs.length := by
  obtain ⟨c, cells, a, b, s, t, _, _, h, _⟩ := h
  exact cell_lt h
/-- grown, the pot still there -/
structure Pg (p : Nat) (hs h : Hs) : Prop where
  gr : Gr [p] hs h
  pot : Pot p h
theorem Pg.refl {p : Nat} {hs : Hs} (h : Pot p hs) : Pg p hs hs := ⟨.refl, h⟩
theorem Pg.trans {p : Nat} {a b c : Hs} (h : Pg p a b) (k : Pg p b c) : Pg p a c := ⟨h.gr.trans k.gr, k.pot⟩
theorem Pot.gr {p : Nat} {hs h : Hs} (k : Pot p hs) (g : Gr [] hs h) : Pot p h := by
  obtain ⟨c, cells, a, b, s, t, h0, h1, h2, h3⟩ := k
  exact ⟨c, cells, a, b, s, t, h0, g.get h1 (by simp), g.get h2 (by simp), h3⟩
theorem Pg.of {p : Nat} {hs h : Hs} (k : Pot p hs) (g : Gr [] hs h) : Pg p hs h := ⟨g.mono (by simp), k.gr g⟩
theorem Gr.set_new {S : List Nat} {hs0 hs : Hs} {n : Nat} {o : O} (g : Gr S hs0 hs) (hn : hs0.length ≤ n) : Gr S hs0 (hs.set n o) := ⟨by simpa using g.le, fun m hm hS => by rw [cell_set_ne (by omega)]; exact g.at_ m hm hS⟩
theorem Pot.set {p n : Nat} {hs : Hs} {o : O} (k : Pot p hs) (hn : p < n) : Pot p (hs.set n o) := by
  obtain ⟨c, cells, a, b, s, t, h0, h1, h2, h3⟩ := k
  exact ⟨c, cells, a, b, s, t, h0, by rw [cell_set_ne (by omega)]; exact h1, by rw [cell_set_ne (by omega)]; exact h2, h3⟩
/-- a list made since is written -/
theorem Pg.set {p n : Nat} {hs h : Hs} {o : O} (g : Pg p hs h) (hn : hs.length ≤ n) (hp : p < hs.length) : Pg p hs (h.set n o) := ⟨g.gr.set_new hn, g.pot.set (by omega)⟩
theorem Pg.push {p : Nat} {hs : Hs} {o : O} (k : Pot p hs) : Pg p hs (hs ++ [o]) := .of k .push
theorem Pg.get {p : Nat} {hs h : Hs} (g : Pg p hs h) {n : Nat} {o : O} (e : cell hs n = some o) (hn : n ≠ p) : cell h n = some o := g.gr.get e (by simpa using hn)
theorem pot_wr {p c : Nat} {cells : List Int} {a b s t a' b' s' t' : Int} {hs : Hs} (h0 : c < p) (h1 : cell hs c = some (.lst (cells.map .int))) (h2 : cell hs p = some (.lst [.loc c, .int a, .int b, .int s, .int t])) (ha : 0 ≤ a') :
    Pg p hs (hs.set p (.lst [.loc c, .int a', .int b', .int s', .int t'])) := by
  refine ⟨.set (by simp), c, cells, a', b', s', t', h0, ?_, ?_, ha⟩
  · rw [cell_set_ne (Nat.ne_of_gt h0)]; exact h1
  · rw [cell_set_self (cell_lt h2)]
theorem draw_ok {p : Nat} {n : Int} {hs : Hs} {Q : Except Ex D → Hs → Prop} (h : Pot p hs) (hn : 0 < n) (hb : n.natAbs < big) (k : ∀ v h', 0 ≤ v → v < n → Pg p hs h' → Q (.ok (.int v)) h') : Wp (r__law_draw [.loc p, .int n] hs) Q := by
  obtain ⟨c, cells, a, b, s, t, h00, h1, h2, h3⟩ := h
  have h0 : c ≠ p := Nat.ne_of_lt h00
  have hp := cell_lt h2
  have dn : divOk n := .of hn hb
  have m1 : ∀ x : Int, mulOk x 69621 := fun x => .r (by decide) (by decide)
  have m2 : ∀ x : Int, mulOk x 48271 := fun x => .r (by decide) (by decide)
  have m3 : ∀ x : Int, mulOk 7919 x := fun x => .l (by decide) (by decide)
  have m4 : ∀ x y : Int, mulOk (x % 2147483647) y := fun x y => .l (by omega) (by omega)
  have d1 : divOk 1009 := .small (by decide) (by decide)
  have d2 : divOk 2003 := .small (by decide) (by decide)
  have d3 : divOk 16 := .small (by decide) (by decide)
  have cut : ∀ {x a' b' s' t'}, 0 ≤ a' → Q (.ok (.int (x % n))) (hs.set p (.lst [.loc c, .int a', .int b', .int s', .int t'])) := fun {x a' b' s' t'} ha =>
    k _ _ (Int.emod_nonneg _ (by omega)) (Int.emod_lt_of_pos _ hn) (pot_wr h00 h1 h2 ha)
  unfold r__law_draw b__law_draw
  simp [h0, h0.symm, h1, h2, hp, dn, m1, m2, m3, m4, d1, d2, d3, hn]
  refine ⟨fun hb0 => ⟨fun hlt => ?_, fun hge => ?_⟩, fun hb0 => ⟨fun hb1 => cut h3, fun hb1 => cut h3⟩⟩
  · have hl : a.toNat < cells.length := by omega
    refine ⟨_, atI_nat (x := D.int cells[a.toNat]) (by simp [hl]) h3, ?_⟩
    simp [m1, h0, h0.symm, hp, h1, dn, m2, m3, m4, d1, d2, d3, hn]
    exact ⟨fun _ => ⟨fun _ => cut (by omega), fun _ => cut (by omega)⟩, fun _ => ⟨fun _ => cut (by omega), fun _ => cut (by omega)⟩⟩
  · exact ⟨fun _ => cut h3, fun _ => cut h3⟩
end DL
set_option Elab.async false
set_option linter.all false
set_option maxRecDepth 100000
set_option maxHeartbeats 4000000
namespace DL
open PySem PySem.Spec PyProof.Rows L2

/-- a list or a tuple of those things -/
inductive Sq (hs : Hs) (p : Nat) : D → List D → Prop
  | tup {xs : List D} : Sq hs p (.tup xs) xs
  | loc {n : Nat} {xs : List D} (h : cell hs n = some (.lst xs)) (hn : n ≠ p) : Sq hs p (.loc n) xs
theorem any_ok {p : Nat} {d : D} {xs : List D} {hs : Hs} {Q : Except Ex D → Hs → Prop} (h : Pot p hs) (hd : Sq hs p d xs) (h0 : xs ≠ []) (hb : xs.length < 2 ^ 64) (k : ∀ x h', x ∈ xs → Pg p hs h' → Q (.ok x) h') : Wp (r__law_any [.loc p, d] hs) Q := by
  have hl : 0 < xs.length := by cases xs with
    | nil => exact absurd rfl h0
    | cons x r => simp
  have hb2 : ((xs.length : Int)).natAbs < big := Nat.lt_of_lt_of_le (by omega) small_big
  unfold r__law_any b__law_any
  cases hd with
  | tup =>
    simp
    refine draw_ok h (by omega) hb2 fun v h' h1 h2 g => ?_
    have hv : v.toNat < xs.length := by omega
    simp
    exact ⟨_, atI_nat (x := xs[v.toNat]) (by simp [hv]) h1, k _ _ (List.getElem_mem _) g⟩
  | loc e hn =>
    simp [e]
    refine draw_ok h (by omega) hb2 fun v h' h1 h2 g => ?_
    have hv : v.toNat < xs.length := by omega
    simp [g.get e hn]
    exact ⟨_, atI_nat (x := xs[v.toNat]) (by simp [hv]) h1, k _ _ (List.getElem_mem _) g⟩
theorem cut_nil {xs : List D} {n : Int} (h : 0 ≤ n) : cutD xs none (some n) = xs.take n.toNat := by
  unfold cutD HT.sIx
  simp only
  rw [if_neg (by omega)]
  simp
theorem pot_ok {ns : List Int} {hs : Hs} {Q : Except Ex D → Hs → Prop} (k : ∀ p h', hs.length ≤ p → Pot p h' → Gr [] hs h' → Q (.ok (.loc p)) h') : Wp (r__law_pot [.frl (ns.map .int)] hs) Q := by
  unfold r__law_pot b__law_pot
  simp [cut_nil]
  refine wp_comp (fun i acc h => h = hs ++ [.lst ((ns.map D.int).take 63)] ∧ ∃ cs : List Int, acc = cs.map .int ∧ acc.length = i) ⟨rfl, [], rfl, rfl⟩ ?_ ?_
  · rintro i d acc h hi ⟨rfl, cs, rfl, hl⟩
    refine ⟨by simp, ?_⟩
    have hm := List.mem_of_getElem? hi
    obtain ⟨n, _, rfl⟩ := List.mem_map.mp (List.mem_of_mem_take hm)
    have hi63 : i < 63 := by
      have := (List.getElem?_eq_some_iff.mp hi).1
      simp at this
      omega
    simp at hl ⊢
    exact ⟨small1000 (by omega), ⟨cs ++ [if n < 0 then -n else n], by simp⟩, hl⟩
  · rintro acc h ⟨rfl, cs, rfl, hl⟩
    simp
    refine k _ _ (by omega) ⟨hs.length + 1, cs, 0, 0, 1 + cs.length, 0, by omega, by simp, by simp, by omega⟩ .app
end DL
set_option Elab.async false
set_option linter.all false
set_option maxRecDepth 100000
set_option maxHeartbeats 4000000
namespace DL
open PySem PySem.Spec PyProof.Rows L2

/-! ## isinstance -/
section
variable {hs : Hs} {Q : D → Hs → Prop}
theorem isi_of {d : D} {T n : String} {c : Bool} (h1 : tyD hs d = some T) (h2 : kitB T n = some c) : Wp (isiD [d, .ty n] hs) Q = Q (.bl c) hs := by
  unfold isiD
  simp only [h1, h2]
  rfl
theorem kitBs_one {T n : String} {c : Bool} (h : kitB T n = some c) : kitBs T [.ty n] = some c := by simp [kitBs, h]
theorem isi_loc {n : Nat} {T : String} {c e : Bool} (h2 : kitB "list" T = some c) (h3 : kitB "dict" T = some e) (h4 : T ∈ tyList) : Wp (isiD [.loc n, .ty T] hs) Q = ((∃ xs, cell hs n = some (.lst xs) ∧ Q (.bl c) hs) ∨ (∃ kvs, cell hs n = some (.dct kvs) ∧ Q (.bl e) hs) ∨ (∃ kvs, cell hs n = some (.dcn kvs) ∧ Q (.bl e) hs) ∨ ∃ c fs, cell hs n = some (.ins c fs) ∧ Q (.bl false) hs) := by
  unfold isiD tyD isiE tyE
  simp only [cell_eq]
  cases h : cell hs n with
  | none => simp
  | some o => cases o <;> simp [h2, h3, kitBs_one h3, noneOf, h4]
@[simp] theorem isi_non_int : Wp (isiD [.non, .ty "int"] hs) Q = Q (.bl false) hs := isi_of rfl (by decide +kernel)
@[simp] theorem isi_non_bool : Wp (isiD [.non, .ty "bool"] hs) Q = Q (.bl false) hs := isi_of rfl (by decide +kernel)
@[simp] theorem isi_non_str : Wp (isiD [.non, .ty "str"] hs) Q = Q (.bl false) hs := isi_of rfl (by decide +kernel)
@[simp] theorem isi_non_list : Wp (isiD [.non, .ty "list"] hs) Q = Q (.bl false) hs := isi_of rfl (by decide +kernel)
@[simp] theorem isi_non_tuple : Wp (isiD [.non, .ty "tuple"] hs) Q = Q (.bl false) hs := isi_of rfl (by decide +kernel)
@[simp] theorem isi_non_dict : Wp (isiD [.non, .ty "dict"] hs) Q = Q (.bl false) hs := isi_of rfl (by decide +kernel)
@[simp] theorem isi_bl_int {b : Bool} : Wp (isiD [(.bl b), .ty "int"] hs) Q = Q (.bl true) hs := isi_of rfl (by decide +kernel)
@[simp] theorem isi_bl_bool {b : Bool} : Wp (isiD [(.bl b), .ty "bool"] hs) Q = Q (.bl true) hs := isi_of rfl (by decide +kernel)
@[simp] theorem isi_bl_str {b : Bool} : Wp (isiD [(.bl b), .ty "str"] hs) Q = Q (.bl false) hs := isi_of rfl (by decide +kernel)
@[simp] theorem isi_bl_list {b : Bool} : Wp (isiD [(.bl b), .ty "list"] hs) Q = Q (.bl false) hs := isi_of rfl (by decide +kernel)
@[simp] theorem isi_bl_tuple {b : Bool} : Wp (isiD [(.bl b), .ty "tuple"] hs) Q = Q (.bl false) hs := isi_of rfl (by decide +kernel)
@[simp] theorem isi_bl_dict {b : Bool} : Wp (isiD [(.bl b), .ty "dict"] hs) Q = Q (.bl false) hs := isi_of rfl (by decide +kernel)
@[simp] theorem isi_int_int {i : Int} : Wp (isiD [(.int i), .ty "int"] hs) Q = Q (.bl true) hs := isi_of rfl (by decide +kernel)
@[simp] theorem isi_int_bool {i : Int} : Wp (isiD [(.int i), .ty "bool"] hs) Q = Q (.bl false) hs := isi_of rfl (by decide +kernel)
@[simp] theorem isi_int_str {i : Int} : Wp (isiD [(.int i), .ty "str"] hs) Q = Q (.bl false) hs := isi_of rfl (by decide +kernel)
@[simp] theorem isi_int_list {i : Int} : Wp (isiD [(.int i), .ty "list"] hs) Q = Q (.bl false) hs := isi_of rfl (by decide +kernel)
@[simp] theorem isi_int_tuple {i : Int} : Wp (isiD [(.int i), .ty "tuple"] hs) Q = Q (.bl false) hs := isi_of rfl (by decide +kernel)
@[simp] theorem isi_int_dict {i : Int} : Wp (isiD [(.int i), .ty "dict"] hs) Q = Q (.bl false) hs := isi_of rfl (by decide +kernel)
@[simp] theorem isi_str_int {x : Str} : Wp (isiD [(.str x), .ty "int"] hs) Q = Q (.bl false) hs := isi_of rfl (by decide +kernel)
@[simp] theorem isi_str_bool {x : Str} : Wp (isiD [(.str x), .ty "bool"] hs) Q = Q (.bl false) hs := isi_of rfl (by decide +kernel)
@[simp] theorem isi_str_str {x : Str} : Wp (isiD [(.str x), .ty "str"] hs) Q = Q (.bl true) hs := isi_of rfl (by decide +kernel)
@[simp] theorem isi_str_list {x : Str} : Wp (isiD [(.str x), .ty "list"] hs) Q = Q (.bl false) hs := isi_of rfl (by decide +kernel)
@[simp] theorem isi_str_tuple {x : Str} : Wp (isiD [(.str x), .ty "tuple"] hs) Q = Q (.bl false) hs := isi_of rfl (by decide +kernel)
@[simp] theorem isi_str_dict {x : Str} : Wp (isiD [(.str x), .ty "dict"] hs) Q = Q (.bl false) hs := isi_of rfl (by decide +kernel)
@[simp] theorem isi_tup_int {xs : List D} : Wp (isiD [(.tup xs), .ty "int"] hs) Q = Q (.bl false) hs := isi_of rfl (by decide +kernel)
@[simp] theorem isi_tup_bool {xs : List D} : Wp (isiD [(.tup xs), .ty "bool"] hs) Q = Q (.bl false) hs := isi_of rfl (by decide +kernel)
@[simp] theorem isi_tup_str {xs : List D} : Wp (isiD [(.tup xs), .ty "str"] hs) Q = Q (.bl false) hs := isi_of rfl (by decide +kernel)
@[simp] theorem isi_tup_list {xs : List D} : Wp (isiD [(.tup xs), .ty "list"] hs) Q = Q (.bl false) hs := isi_of rfl (by decide +kernel)
@[simp] theorem isi_tup_tuple {xs : List D} : Wp (isiD [(.tup xs), .ty "tuple"] hs) Q = Q (.bl true) hs := isi_of rfl (by decide +kernel)
@[simp] theorem isi_tup_dict {xs : List D} : Wp (isiD [(.tup xs), .ty "dict"] hs) Q = Q (.bl false) hs := isi_of rfl (by decide +kernel)
@[simp] theorem isi_frl_int {xs : List D} : Wp (isiD [(.frl xs), .ty "int"] hs) Q = Q (.bl false) hs := isi_of rfl (by decide +kernel)
@[simp] theorem isi_frl_bool {xs : List D} : Wp (isiD [(.frl xs), .ty "bool"] hs) Q = Q (.bl false) hs := isi_of rfl (by decide +kernel)
@[simp] theorem isi_frl_str {xs : List D} : Wp (isiD [(.frl xs), .ty "str"] hs) Q = Q (.bl false) hs := isi_of rfl (by decide +kernel)
@[simp] theorem isi_frl_list {xs : List D} : Wp (isiD [(.frl xs), .ty "list"] hs) Q = Q (.bl true) hs := isi_of rfl (by decide +kernel)
@[simp] theorem isi_frl_tuple {xs : List D} : Wp (isiD [(.frl xs), .ty "tuple"] hs) Q = Q (.bl false) hs := isi_of rfl (by decide +kernel)
@[simp] theorem isi_frl_dict {xs : List D} : Wp (isiD [(.frl xs), .ty "dict"] hs) Q = Q (.bl false) hs := isi_of rfl (by decide +kernel)
@[simp] theorem isi_loc_int {n : Nat} : Wp (isiD [.loc n, .ty "int"] hs) Q = ((∃ xs, cell hs n = some (.lst xs) ∧ Q (.bl false) hs) ∨ (∃ kvs, cell hs n = some (.dct kvs) ∧ Q (.bl false) hs) ∨ (∃ kvs, cell hs n = some (.dcn kvs) ∧ Q (.bl false) hs) ∨ ∃ c fs, cell hs n = some (.ins c fs) ∧ Q (.bl false) hs) := isi_loc (by decide +kernel) (by decide +kernel) (by decide)
@[simp] theorem isi_loc_bool {n : Nat} : Wp (isiD [.loc n, .ty "bool"] hs) Q = ((∃ xs, cell hs n = some (.lst xs) ∧ Q (.bl false) hs) ∨ (∃ kvs, cell hs n = some (.dct kvs) ∧ Q (.bl false) hs) ∨ (∃ kvs, cell hs n = some (.dcn kvs) ∧ Q (.bl false) hs) ∨ ∃ c fs, cell hs n = some (.ins c fs) ∧ Q (.bl false) hs) := isi_loc (by decide +kernel) (by decide +kernel) (by decide)
@[simp] theorem isi_loc_str {n : Nat} : Wp (isiD [.loc n, .ty "str"] hs) Q = ((∃ xs, cell hs n = some (.lst xs) ∧ Q (.bl false) hs) ∨ (∃ kvs, cell hs n = some (.dct kvs) ∧ Q (.bl false) hs) ∨ (∃ kvs, cell hs n = some (.dcn kvs) ∧ Q (.bl false) hs) ∨ ∃ c fs, cell hs n = some (.ins c fs) ∧ Q (.bl false) hs) := isi_loc (by decide +kernel) (by decide +kernel) (by decide)
@[simp] theorem isi_loc_list {n : Nat} : Wp (isiD [.loc n, .ty "list"] hs) Q = ((∃ xs, cell hs n = some (.lst xs) ∧ Q (.bl true) hs) ∨ (∃ kvs, cell hs n = some (.dct kvs) ∧ Q (.bl false) hs) ∨ (∃ kvs, cell hs n = some (.dcn kvs) ∧ Q (.bl false) hs) ∨ ∃ c fs, cell hs n = some (.ins c fs) ∧ Q (.bl false) hs) := isi_loc (by decide +kernel) (by decide +kernel) (by decide)
@[simp] theorem isi_loc_tuple {n : Nat} : Wp (isiD [.loc n, .ty "tuple"] hs) Q = ((∃ xs, cell hs n = some (.lst xs) ∧ Q (.bl false) hs) ∨ (∃ kvs, cell hs n = some (.dct kvs) ∧ Q (.bl false) hs) ∨ (∃ kvs, cell hs n = some (.dcn kvs) ∧ Q (.bl false) hs) ∨ ∃ c fs, cell hs n = some (.ins c fs) ∧ Q (.bl false) hs) := isi_loc (by decide +kernel) (by decide +kernel) (by decide)
@[simp] theorem isi_loc_dict {n : Nat} : Wp (isiD [.loc n, .ty "dict"] hs) Q = ((∃ xs, cell hs n = some (.lst xs) ∧ Q (.bl false) hs) ∨ (∃ kvs, cell hs n = some (.dct kvs) ∧ Q (.bl true) hs) ∨ (∃ kvs, cell hs n = some (.dcn kvs) ∧ Q (.bl true) hs) ∨ ∃ c fs, cell hs n = some (.ins c fs) ∧ Q (.bl false) hs) := isi_loc (by decide +kernel) (by decide +kernel) (by decide)
end
/-! ## strings -/
theorem shp {x : Str} (h : PyData.canLay0 (.str x) = true) : SeqAt.shaped (.str x) = true := by unfold SeqAt.shaped; rw [h]; rfl
theorem pys_strs {f : Nat → Option PyData} : ∀ {ws : List Str}, D.pys f (ws.map .str) = some (ws.map .str)
  | [] => rfl
  | w :: ws => by simp [D.pys, D.py, pys_strs (ws := ws)]
theorem depthAll_strs : ∀ {ws : List Str}, PyData.depthAll (ws.map PyData.str) ≤ 1
  | [] => by simp [PyData.depthAll]
  | w :: ws => by
    have ih := depthAll_strs (ws := ws)
    simp [PyData.depthAll, PyData.depth]
    omega
theorem canLay_strs : ∀ {ws : List Str}, (∀ w ∈ ws, PyData.canLay0 (.str w) = true) → PyData.canLayAll0 (ws.map .str) = true
  | [], _ => by simp [PyData.canLayAll0]
  | w :: ws, h => by simp [PyData.canLayAll0, h w (by simp), canLay_strs (ws := ws) fun v hv => h v (by simp [hv])]
theorem in_tup {hs : Hs} {a : D} {xs : List D} {p : PyData} {ys : List PyData} (h1 : a.data hs = some p) (h2 : D.data hs (.tup xs) = some (.tuple ys)) (s1 : SeqAt.shaped p = true) (s2 : SeqAt.shaped (.tuple ys) = true) : inD hs a (.tup xs) = some (ys.any fun z => PyData.eqv z p) := by
  cases a <;> simp [inD, h1, h2, s1, s2]
theorem in_strs {hs : Hs} {w : Str} {ws : List Str} (h1 : PyData.canLay0 (.str w) = true) (h2 : ∀ w ∈ ws, PyData.canLay0 (.str w) = true) : inD hs (.str w) (.tup (ws.map .str)) = some (decide (w ∈ ws)) := by
  have e : D.data hs (.tup (ws.map .str)) = some (.tuple (ws.map .str)) := by
    unfold D.data D.py
    rw [pys_strs]; rfl
  have s2 : SeqAt.shaped (.tuple (ws.map .str)) = true := by
    unfold SeqAt.shaped
    have := depthAll_strs (ws := ws)
    simp [PyData.canLay0, canLay_strs h2, PyData.depth]
    omega
  refine (in_tup (p := .str w) rfl e (shp h1) s2).trans ?_
  congr 1
  clear e s2 h1 h2
  induction ws with
  | nil => rfl
  | cons v ws ih =>
    rw [List.map_cons, List.any_cons, ih]
    by_cases q : v = w
    · subst q; simp [PyData.eqv]
    · have q' : w ≠ v := fun e => q e.symm
      simp [PyData.eqv, q, q']
end DL
set_option Elab.async false
set_option linter.all false
set_option maxRecDepth 100000
set_option maxHeartbeats 4000000
namespace DL
open PySem PySem.Spec PyProof.Rows L2

/-! ## the end: what the top has written -/
section
variable {P : Program} {w : World} {K : PySem.W.Frag} {mg : Str → Option Value} {base : Heap} {k : Nat} {x : Str}
theorem val_int {i : Int} {t : Tok} (e : mg x = some (Value.int i t)) : GAt P w K mg base k x (.val (.int i)) := ⟨_, .int i, e, ⟨t, rfl⟩, fun _ _ => mk_int⟩
theorem val_str {y : Str} {t : Tok} (e : mg x = some (Value.str y t)) : GAt P w K mg base k x (.val (.str y)) := ⟨_, .str y, e, ⟨t, rfl⟩, fun _ _ => mk_str⟩
theorem val_tup {a : Addr} {od : Option Addr} {its : Array Value} {n : Nat} {sl : Array (Option Value)} {xs : List D} {vs : List V} (e : mg x = some (.ref a)) (l : K.lookup a = some ⟨.type "tuple", od, .seq its n, sl⟩) (hz : its.size ≤ sizeLine)
    (v : Vals vs its.toList) (r : ∀ m H, RVs K mg m H xs vs) : GAt P w K mg base k x (.val (.tup xs)) :=
  ⟨_, .ref a, e, rfl, fun m H => by simp only [RV]; exact ⟨a, vs, rfl, .inr ⟨_, its, n, l, rfl, rfl, hz, v⟩, r m H⟩⟩
theorem fn_at {n : Nat} {f : List D → M D} {g : Addr} {fd : FuncData} {ps : List Str} (F : FnG P w K mg base (L2.CX P w) k g fd ps (spD K mg n f)) (h1 : mg x = some (.ref g)) (h2 : PySem.W.keepIn K (.ref g) = true) (h3 : Binds K fd ps []) : GAt P w K mg base k x (.fn n f) := ⟨g, fd, ps, F, h1, h2, h3⟩
end
theorem walk {l : PySem.W.OpenLaw} {q : Program} {loose : List Str} {XP : (Str → Option Value) → Heap → Prop} {YP : World → Heap → Prop} {d : DefRec} {K : Params → PySem.W.Frag} {k : Nat} {x : Str} {r : List D → M D} (hn : l.most = some 63) (hdf : d.params.defaults = []) (hr : Room k callerA)
    (hY : ∀ (w : World) (h : Heap), YP w h → (K w.params).In h) (law : ∀ ns : List Int, ns.length ≤ 63 → ∃ hs', r [.frl (ns.map D.int)] [] = some (.ok (.bl true), hs'))
    (F : ∀ (w : World) (mg : Str → Option Value) (fa : Addr) (h : Heap), (K w.params).In h → h.Ns mainGlobals mg → mg d.name = some (.ref fa) →
      ∃ fd : FuncData, (∀ (s : Shared) (u : Value), BindsTo s fd ⟨[u], []⟩ [(x, u)]) ∧ ∀ base : Heap, (K w.params).In base → base.Ns mainGlobals mg → FnG l.prog w (K w.params) mg base (L2.CX l.prog w) k fa fd [x] (spD (K w.params) mg 1 r)) :
    PySem.W.WalkO q loose XP YP l.row.toRowW d [] (fun f vs => PySem.call f vs) := by
  refine Att.attach_call hn hdf fun w s₀ s₁ mg mb fa o pm cd doc a vs ns G Y ho hd hcd hmg hobj hints hlen hg => ?_
  have kin := hY w _ Y
  obtain ⟨fd, h1, h2⟩ := F w mg fa _ kin G.T.g hmg
  refine callG (CX := L2.CX l.prog w) kin G.T.g G.T.b G.T.builtins G.T.nolimit hg hobj hints (Nat.le_trans hlen (by decide)) hr (fun base hb hb2 => (h2 base hb hb2).weak fun vs H Q E q => law_sp law vs H Q E q) h1 (fun H hO hS => ⟨a, ns, rfl, sqF_of hO hS, hlen, fun _ => rfl⟩) fun H e s' h => ?_
  obtain ⟨_, _, _, _, _, _, _, _, _, _, _, _, z⟩ := h
  exact z.elim
theorem law_of {r : List D → M D} (h : ∀ ns : List Int, ns.length ≤ 63 → Wp (r [.frl (ns.map D.int)] []) (okq fun d _ => d = .bl true)) (ns : List Int) (hl : ns.length ≤ 63) : ∃ hs', r [.frl (ns.map D.int)] [] = some (.ok (.bl true), hs') := by
  obtain ⟨b, hs', e, q⟩ := (h ns hl).get
  cases b with
  | error _ => exact q.elim
  | ok d =>
    have q : d = .bl true := q
    subst q
    exact ⟨hs', e⟩
end DL
set_option Elab.async false
set_option linter.all false
set_option maxRecDepth 100000
set_option maxHeartbeats 4000000
namespace DL
open PySem PySem.Spec PyProof.Rows L2

/-! ## what values are: the checks that all laws share -/
noncomputable def b_is_integer : Ev → S := (seqS (retS (andV (callM isiD (consM (varD 0) (consM (fun _ => M.pure (.ty "int")) (fun _ => M.pure [])))) (notV (callM isiD (consM (varD 0) (consM (fun _ => M.pure (.ty "bool")) (fun _ => M.pure [])))))))
  nextS)
noncomputable def r_is_integer : List D → M D := runB 1 b_is_integer
noncomputable def b_is_within : Ev → S := (seqS (retS (andV (callF 1 r_is_integer (consM (varD 0) (fun _ => M.pure []))) (op3 (cmpD .LtE) (cmpD .LtE) (varD 1) (varD 0) (varD 2))))
  nextS)
noncomputable def r_is_within : List D → M D := runB 3 b_is_within
noncomputable def b_is_many : Ev → S := (seqS (retS (callF 3 r_is_within (consM (varD 0) (consM (fun _ => M.pure (.int 3)) (consM (fun _ => M.pure (.int 5)) (fun _ => M.pure []))))))
  nextS)
noncomputable def r_is_many : List D → M D := runB 1 b_is_many
noncomputable def b_check_many : Ev → S := (seqS (ifS (notM (truth (callF 1 r_is_many (consM (varD 0) (fun _ => M.pure [])))))
  (seqS stuckS
  nextS)
  nextS)
  nextS)
noncomputable def r_check_many : List D → M D := runB 1 b_check_many
noncomputable def b_check_rounds : Ev → S := (seqS (ifS (notM (truth (callF 3 r_is_within (consM (varD 0) (consM (fun _ => M.pure (.int 0)) (consM (fun _ => M.pure (.int 30)) (fun _ => M.pure [])))))))
  (seqS stuckS
  nextS)
  nextS)
  nextS)
noncomputable def r_check_rounds : List D → M D := runB 1 b_check_rounds
noncomputable def b_is_sized : Ev → S := (seqS (retS (andV (callM isiD (consM (varD 0) (consM (fun _ => M.pure (.ty "tuple")) (fun _ => M.pure [])))) (op3 (cmpD .LtE) (cmpD .LtE) (varD 1) (callM lenD (consM (varD 0) (fun _ => M.pure []))) (varD 2))))
  nextS)
noncomputable def r_is_sized : List D → M D := runB 3 b_is_sized
noncomputable def b_is_miss : Ev → S := (seqS (retS (orV (op2 (cmpD .Is) (varD 2) (fun _ => M.pure .non)) (andV (callF 3 r_is_within (consM (varD 2) (consM (fun _ => M.pure (.int 0)) (consM (op2 (binD .Sub) (varD 0) (fun _ => M.pure (.int 1))) (fun _ => M.pure []))))) (op2 (cmpD .NotEq) (varD 2) (varD 1)))))
  nextS)
noncomputable def r_is_miss : List D → M D := runB 3 b_is_miss
noncomputable def b_is_round : Ev → S := (seqS (retS (andV (callF 3 r_is_sized (consM (varD 1) (consM (varD 0) (consM (varD 0) (fun _ => M.pure []))))) (callM allD (consM (compM [2, 3] (.many [2, 3]) (fun e => M.bind ((consM (varD 1) (fun _ => M.pure [])) e) enumSrc) (fun _ => M.pure true) (callF 3 r_is_miss (consM (varD 0) (consM (varD 2) (consM (varD 3) (fun _ => M.pure [])))))) (fun _ => M.pure [])))))
  nextS)
noncomputable def r_is_round : List D → M D := runB 4 b_is_round
noncomputable def b_is_pattern_of : Ev → S := (seqS (asgS (.many [3, 4]) (ifV (asTest (op2 (cmpD .Is) (varD 1) (fun _ => M.pure .non))) (tupM (consM (fun _ => M.pure (.int 0)) (consM (fun _ => M.pure (.int 30)) (fun _ => M.pure [])))) (tupM (consM (varD 1) (consM (varD 1) (fun _ => M.pure []))))))
  (seqS (retS (andV (callF 3 r_is_sized (consM (varD 2) (consM (varD 3) (consM (varD 4) (fun _ => M.pure []))))) (callM allD (consM (compM [5] (.one 5) (seqM (varD 2)) (fun _ => M.pure true) (callF 2 r_is_round (consM (varD 0) (consM (varD 5) (fun _ => M.pure []))))) (fun _ => M.pure [])))))
  nextS))
noncomputable def r_is_pattern_of : List D → M D := runB 6 b_is_pattern_of
/-! ### a comprehension whose turns tell one thing each, and write nothing that stood -/
theorem wp_comp_grow {ok : Hs → Prop} {turn : D → M (Option D)} {items : List D} {hs : Hs} {Q : List D → Hs → Prop} (S : List Nat) (g : D → Option D) (hok : ∀ h, Gr S hs h → ok h) (hl : items.length ≤ 1000)
    (step : ∀ d h, d ∈ items → Gr S hs h → Wp (turn d h) (okq fun o h' => o = g d ∧ Gr S h h')) (fin : ∀ h, Gr S hs h → Q (items.filterMap g) h) : Wp (compS ok turn items [] hs) Q := by
  refine wp_comp (fun i acc h => Gr S hs h ∧ acc = (items.take i).filterMap g) ⟨.refl, by simp⟩ ?_ ?_
  · rintro i d acc h hi ⟨gr, rfl⟩
    refine ⟨hok h gr, (step d h (List.mem_of_getElem? hi) gr).mono fun r h' q => ?_⟩
    cases r with
    | error e => exact q.elim
    | ok o =>
      obtain ⟨rfl, g2⟩ : o = g d ∧ Gr S h h' := q
      have hlt := (List.getElem?_eq_some_iff.mp hi).1
      have e : (items.take (i + 1)).filterMap g = (items.take i).filterMap g ++ (match g d with | some y => [y] | none => []) := by
        rw [List.take_succ, hi, List.filterMap_append]
        simp only [Option.toList]
        cases eg : g d <;> simp [eg]
      simp only [okq]
      cases eg : g d with
      | none => simp only [eg] at e; exact ⟨gr.trans g2, by rw [e]; simp⟩
      | some y =>
        simp only [eg] at e
        refine ⟨?_, gr.trans g2, e.symm⟩
        have := List.length_filterMap_le g (items.take i)
        have h2 := List.length_take_le i items
        exact small1000 (by omega)
  · rintro acc h ⟨gr, rfl⟩
    exact ⟨hok h gr, by rw [List.take_length]; exact fin h gr⟩
/-- a thing whose type is known -/
inductive Kn (hs : Hs) : D → Prop
  | non : Kn hs .non
  | bl {b : Bool} : Kn hs (.bl b)
  | int {i : Int} : Kn hs (.int i)
  | str {x : Str} : Kn hs (.str x)
  | tup {xs : List D} : Kn hs (.tup xs)
  | frl {xs : List D} : Kn hs (.frl xs)
  | lst {n : Nat} {xs : List D} (h : cell hs n = some (.lst xs)) : Kn hs (.loc n)
  | dct {n : Nat} {kvs : List (D × D)} (h : cell hs n = some (.dct kvs)) : Kn hs (.loc n)
theorem Kn.gr {hs h : Hs} {d : D} (k : Kn hs d) (g : Gr [] hs h) : Kn h d := by
  cases k with
  | non => exact .non
  | bl => exact .bl
  | int => exact .int
  | str => exact .str
  | tup => exact .tup
  | frl => exact .frl
  | lst e => exact .lst (g.get e (by simp))
  | dct e => exact .dct (g.get e (by simp))
def isInt : D → Bool
  | .int _ => true
  | _ => false
def within (lo hi : Int) : D → Bool
  | .int i => decide (lo ≤ i) && decide (i ≤ hi)
  | _ => false
section
variable {hs : Hs} {d : D} {Q : Except Ex D → Hs → Prop}
@[simp] theorem is_integer_ok (k : Kn hs d) : Wp (r_is_integer [d] hs) Q = Q (.ok (.bl (isInt d))) hs := by
  unfold r_is_integer b_is_integer
  cases k <;> simp [isInt, *]
@[simp] theorem is_within_ok {lo hi : Int} (k : Kn hs d) : Wp (r_is_within [d, .int lo, .int hi] hs) Q = Q (.ok (.bl (within lo hi d))) hs := by
  unfold r_is_within b_is_within
  cases k <;> simp [isInt, within, Kn.non, Kn.bl, Kn.int, Kn.str, Kn.tup, Kn.frl, Kn.lst, Kn.dct, *]
  rename_i i
  by_cases h : lo ≤ i
  · have h2 : ¬ i < lo := by omega
    simp [h, h2]
  · have h2 : i < lo := by omega
    simp [h, h2]
theorem is_many_ok (k : Kn hs d) : Wp (r_is_many [d] hs) Q = Q (.ok (.bl (within 3 5 d))) hs := by
  unfold r_is_many b_is_many
  simp [k]
theorem check_many_ok {i : Int} (h : 3 ≤ i ∧ i ≤ 5) (q : Q (.ok .non) hs) : Wp (r_check_many [.int i] hs) Q := by
  unfold r_check_many b_check_many
  simp [is_many_ok Kn.int, within, h.1, h.2]
  exact q
theorem check_rounds_ok {i : Int} (h : 0 ≤ i ∧ i ≤ 30) (q : Q (.ok .non) hs) : Wp (r_check_rounds [.int i] hs) Q := by
  unfold r_check_rounds b_check_rounds
  simp [Kn.int, within, h.1, h.2]
  exact q
def sized (lo hi : Int) : D → Bool
  | .tup xs => decide (lo ≤ xs.length) && decide ((xs.length : Int) ≤ hi)
  | _ => false
theorem is_sized_ok {lo hi : Int} (k : Kn hs d) : Wp (r_is_sized [d, .int lo, .int hi] hs) Q = Q (.ok (.bl (sized lo hi d))) hs := by
  unfold r_is_sized b_is_sized
  cases k <;> simp [sized, *]
  rename_i xs
  by_cases h : lo ≤ xs.length
  · have h2 : ¬ (xs.length : Int) < lo := by omega
    simp [h, h2]
  · have h2 : (xs.length : Int) < lo := by omega
    simp [h, h2]
def miss (many me : Int) : D → Bool
  | .non => true
  | .int i => decide (0 ≤ i) && decide (i ≤ many - 1) && decide (i ≠ me)
  | _ => false
theorem is_miss_ok {many me : Int} (k : Kn hs d) : Wp (r_is_miss [.int many, .int me, d] hs) Q = Q (.ok (.bl (miss many me d))) hs := by
  unfold r_is_miss b_is_miss
  cases k <;> simp [miss, within, Kn.non, Kn.bl, Kn.int, Kn.str, Kn.tup, Kn.frl, Kn.lst, Kn.dct, *]
  rename_i i
  by_cases h1 : 0 ≤ i <;> by_cases h2 : i ≤ many - 1
  · have h3 : ¬ many - 1 < i := by omega
    simp [h1, h2, h3]
  · have h3 : many - 1 < i := by omega
    simp [h1, h2, h3]
  · simp [h1, h2]
  · simp [h1, h2]
def missL (many : Int) : Nat → List D → List Bool
  | _, [] => []
  | k, x :: xs => miss many (k : Nat) x :: missL many (k + 1) xs
def roundOk (many : Int) : D → Bool
  | .tup xs => decide ((xs.length : Int) = many) && (missL many 0 xs).all id
  | _ => false
def missG (many : Int) : D → Option D
  | .tup [.int i, x] => some (.bl (miss many i x))
  | _ => none
theorem missG_all {many : Int} : ∀ {xs : List D} {k : Nat}, (enumL k xs).filterMap (missG many) = (missL many k xs).map .bl
  | [], _ => rfl
  | x :: xs, k => by simp [enumL, missL, missG, missG_all (xs := xs)]
/-- a thing that is known, its items too if it is a tuple -/
def Kn1 (hs : Hs) (d : D) : Prop := Kn hs d ∧ ∀ xs, d = .tup xs → ∀ x ∈ xs, Kn hs x
/-- .. and theirs -/
def Kn2 (hs : Hs) (d : D) : Prop := Kn hs d ∧ ∀ xs, d = .tup xs → ∀ x ∈ xs, Kn1 hs x
theorem Kn1.gr {hs h : Hs} {d : D} (k : Kn1 hs d) (g : Gr [] hs h) : Kn1 h d := ⟨k.1.gr g, fun xs e x hx => (k.2 xs e x hx).gr g⟩
theorem Kn2.gr {hs h : Hs} {d : D} (k : Kn2 hs d) (g : Gr [] hs h) : Kn2 h d := ⟨k.1.gr g, fun xs e x hx => (k.2 xs e x hx).gr g⟩
theorem is_round_ok {many : Int} (hm : 0 ≤ many ∧ many ≤ 1000) (k : Kn1 hs d) (q : ∀ h, Gr [] hs h → Q (.ok (.bl (roundOk many d))) h) : Wp (r_is_round [.int many, d] hs) Q := by
  unfold r_is_round b_is_round
  simp [is_sized_ok k.1]
  have q0 := q hs .refl
  cases d with
  | tup xs =>
    simp only [sized, roundOk] at q q0 ⊢
    by_cases hl : (xs.length : Int) = many
    · have e : (decide (many ≤ (xs.length : Int)) && decide ((xs.length : Int) ≤ many)) = true := by simp; omega
      simp [hl] at q ⊢
      refine wp_comp_grow [] (missG many) (fun _ _ => trivial) (by rw [enumL_len]; omega) (fun y h hy g => ?_) fun h g => ?_
      · obtain ⟨i, hi⟩ := List.mem_iff_getElem?.mp hy
        obtain ⟨x, hx, rfl⟩ := enumL_at hi
        have kx : Kn h x := (k.2 xs rfl x (List.mem_of_getElem? hx)).gr g
        simp [is_miss_ok kx, missG]
        exact .refl
      · rw [missG_all]
        simp [flags_bl]
        exact q _ (g.trans .push)
    · have e : (decide (many ≤ (xs.length : Int)) && decide ((xs.length : Int) ≤ many)) = false := by simp; omega
      simp [e]
      simpa [hl] using q0
  | _ => simpa [sized, roundOk] using q0
def patOk (many lo hi : Int) : D → Bool
  | .tup rows => decide (lo ≤ rows.length) && decide ((rows.length : Int) ≤ hi) && rows.all (roundOk many)
  | _ => false
theorem is_pattern_of_ok {many lo hi : Int} {r : D} (hr : (r = .non ∧ lo = 0 ∧ hi = 30) ∨ (r = .int lo ∧ hi = lo)) (hh : hi ≤ 1000) (hm : 0 ≤ many ∧ many ≤ 1000) (k : Kn2 hs d) (q : ∀ h, Gr [] hs h → Q (.ok (.bl (patOk many lo hi d))) h) : Wp (r_is_pattern_of [.int many, r, d] hs) Q := by
  have core : ∀ {e : Ev} (Q : Except Ex D → Hs → Prop), e = [some (.int many), some r, some d, some (.int lo), some (.int hi), none] → (∀ h, Gr [] hs h → Q (.ok (.bl (patOk many lo hi d))) h) → Wp (andV (callF 3 r_is_sized (consM (varD 2) (consM (varD 3) (consM (varD 4) (fun _ => M.pure []))))) (callM allD (consM (compM [5] (.one 5) (seqM (varD 2)) (fun _ => M.pure true) (callF 2 r_is_round (consM (varD 0) (consM (varD 5) (fun _ => M.pure []))))) (fun _ => M.pure []))) e hs) Q := by
    rintro e Q rfl q
    simp [is_sized_ok k.1]
    have q0 := q hs .refl
    cases d with
    | tup rows =>
      simp only [sized, patOk] at q q0 ⊢
      by_cases hl : (decide (lo ≤ (rows.length : Int)) && decide ((rows.length : Int) ≤ hi)) = true
      · have h2 := hl
        simp only [Bool.and_eq_true, decide_eq_true_eq] at h2
        simp [h2.1, h2.2] at q ⊢
        refine wp_comp_grow [] (fun x => some (.bl (roundOk many x))) (fun _ _ => trivial) (by omega) (fun y h hy g => ?_) fun h g => ?_
        · simp
          exact is_round_ok hm ((k.2 rows rfl y hy).gr g) fun h' g' => by simp; exact g'
        · have e : rows.filterMap (fun x => some (D.bl (roundOk many x))) = (rows.map (roundOk many)).map .bl := by
            clear q q0 hl h2 k
            induction rows with
            | nil => rfl
            | cons x r ih => simp
          rw [e]
          simp [flags_bl, -List.map_map]
          have := q _ (g.trans (Gr.push (o := .lst ((rows.map (roundOk many)).map .bl))))
          simpa [Function.comp] using this
      · have h2 : (decide (lo ≤ (rows.length : Int)) && decide ((rows.length : Int) ≤ hi)) = false := by simpa using hl
        rw [h2] at q0 ⊢
        simpa using q0
    | _ => simpa [sized, patOk] using q0
  unfold r_is_pattern_of b_is_pattern_of
  rcases hr with ⟨rfl, rfl, rfl⟩ | ⟨rfl, rfl⟩
  · have c := core (onEx (fun d _ hs => some (.ret d, hs)) [some (.int many), some .non, some d, some (.int 0), some (.int 30), none] (onNx nextS (onRun Q))) rfl (fun h g => by simpa using q h g)
    simp at c ⊢
    exact c
  · have c := core (onEx (fun d _ hs => some (.ret d, hs)) [some (.int many), some (.int hi), some d, some (.int hi), some (.int hi), none] (onNx nextS (onRun Q))) rfl (fun h g => by simpa using q h g)
    simp at c ⊢
    exact c
end
end DL
set_option Elab.async false
set_option linter.all false
set_option maxRecDepth 100000
set_option maxHeartbeats 4000000
namespace DL
open PySem PySem.Spec PyProof.Rows L2

/-! ## what holds behind the work with dicts whose keys are tuples -/
section
variable {hs : Hs} {n : Nat} {k v d : D} {κ : NestedKey} {kvs : List (D × D)} {Q : D → Hs → Prop}
theorem inD_key (hk : keyN k = some κ) (hc : (∃ kvs, cell hs n = some (.dcn kvs)) ∨ ∃ kvs, cell hs n = some (.dct kvs)) : inD hs k (.loc n) = none := by
  obtain ⟨⟨xs, rfl⟩, _, _⟩ := keyN_some hk
  have e : D.data hs (.loc n) = none := by
    unfold D.data
    simp only [D.py, derefs]
    rcases hc with ⟨kvs, hc⟩ | ⟨kvs, hc⟩
    · rw [← cell_eq] at hc; rw [hc]
    · rw [← cell_eq] at hc; rw [hc]
  unfold inD
  simp only [e]
  cases D.data hs (.tup xs) <;> rfl
theorem wp_in_dcn (hk : keyN k = some κ) (hc : cell hs n = some (.dcn kvs)) : Wp (cmpD .In k (.loc n) hs) Q = Q (.bl (findN kvs κ).isSome) hs := by
  rw [wp_cmpIn, inD_key hk (.inl ⟨_, hc⟩)]
  have : inN hs k (.loc n) = some (findN kvs κ).isSome := by
    rw [← cell_eq] at hc
    simp only [inN, hk, hc]
  simp only [this]
  rfl
theorem wp_in_dct0 (hk : keyN k = some κ) (hc : cell hs n = some (.dct [])) : Wp (cmpD .In k (.loc n) hs) Q = Q (.bl false) hs := by
  rw [wp_cmpIn, inD_key hk (.inr ⟨_, hc⟩)]
  have : inN hs k (.loc n) = some false := by
    rw [← cell_eq] at hc
    simp only [inN, hk, hc]
  simp only [this]
  rfl
theorem wp_notIn_dcn (hk : keyN k = some κ) (hc : cell hs n = some (.dcn kvs)) : Wp (cmpD .NotIn k (.loc n) hs) Q = Q (.bl (!(findN kvs κ).isSome)) hs := by
  rw [wp_cmpNotIn, inD_key hk (.inl ⟨_, hc⟩)]
  have : inN hs k (.loc n) = some (findN kvs κ).isSome := by
    rw [← cell_eq] at hc
    simp only [inN, hk, hc]
  simp only [this]
  rfl
theorem wp_notIn_dct0 (hk : keyN k = some κ) (hc : cell hs n = some (.dct [])) : Wp (cmpD .NotIn k (.loc n) hs) Q = Q (.bl true) hs := by
  rw [wp_cmpNotIn, inD_key hk (.inr ⟨_, hc⟩)]
  have : inN hs k (.loc n) = some false := by
    rw [← cell_eq] at hc
    simp only [inN, hk, hc]
  simp only [this]
  rfl
theorem wp_ix_dcn (hk : keyN k = some κ) (hc : cell hs n = some (.dcn kvs)) : Wp (ixD (.loc n) k hs) Q = ∃ d, findN kvs κ = some d ∧ Q d hs := by
  obtain ⟨⟨xs, rfl⟩, _, _⟩ := keyN_some hk
  have e : itN hs (.loc n) (.tup xs) = findN kvs κ := by
    rw [← cell_eq] at hc
    simp only [itN, hk, hc]
  unfold ixD
  simp only [e]
  cases findN kvs κ <;> simp [Wp]
theorem wp_set_dcn {e : Ev} {R : Fl → Hs → Prop} (hk : keyN k = some κ) (hc : cell hs n = some (.dcn kvs)) : Wp (setK (.loc n) k v e hs) R = (kvs.length < sizeLine ∧ R (.nx e) (hs.set n (.dcn (putN kvs κ k v)))) := by
  obtain ⟨⟨xs, rfl⟩, _, _⟩ := keyN_some hk
  have e1 : setN hs (.loc n) (.tup xs) v = if kvs.length < sizeLine then some (hs.set n (.dcn (putN kvs κ (.tup xs) v))) else none := by
    rw [← cell_eq] at hc
    simp only [setN, hk, hc]
  unfold setK setIxD
  simp only [e1]
  by_cases h : kvs.length < sizeLine <;> simp [h, Wp]
theorem wp_set_dct0 {e : Ev} {R : Fl → Hs → Prop} (hk : keyN k = some κ) (hc : cell hs n = some (.dct [])) : Wp (setK (.loc n) k v e hs) R = R (.nx e) (hs.set n (.dcn [(k, v)])) := by
  obtain ⟨⟨xs, rfl⟩, _, _⟩ := keyN_some hk
  have e1 : setN hs (.loc n) (.tup xs) v = some (hs.set n (.dcn [(.tup xs, v)])) := by
    rw [← cell_eq] at hc
    simp only [setN, hk, hc]
  unfold setK setIxD
  simp only [e1]
  rfl
theorem wp_chk_dict {Q : Except Ex Unit → Hs → Prop} (hc : (∃ kvs, cell hs n = some (.dcn kvs)) ∨ ∃ kvs, cell hs n = some (.dct kvs)) : Wp (chkTy "dict" (.loc n) hs) Q = Q (.ok ()) hs := by
  have e : isDct hs (.loc n) = true := by
    unfold isDct
    rcases hc with ⟨kvs, hc⟩ | ⟨kvs, hc⟩
    · rw [← cell_eq] at hc; simp only [hc]
    · rw [← cell_eq] at hc; simp only [hc]
  unfold chkTy
  rw [if_pos (.inr ⟨rfl, e⟩)]
  rfl
theorem wp_setdef_dcn (hk : keyN k = some κ) (hc : cell hs n = some (.dcn kvs)) : Wp (setdefD (.loc n) [k, d] hs) Q = match findN kvs κ with
    | some v => Q v hs
    | none => kvs.length < sizeLine ∧ Q d (hs.set n (.dcn (putN kvs κ k d))) := by
  rw [← cell_eq] at hc
  unfold setdefD
  simp only [hk, hc]
  cases findN kvs κ with
  | some v => rfl
  | none =>
    simp only
    by_cases h : kvs.length < sizeLine <;> simp [h, Wp]
theorem wp_setdef_dct0 (hk : keyN k = some κ) (hc : cell hs n = some (.dct [])) : Wp (setdefD (.loc n) [k, d] hs) Q = Q d (hs.set n (.dcn [(k, d)])) := by
  rw [← cell_eq] at hc
  unfold setdefD
  simp only [hk, hc]
  rfl
theorem wp_pop_dcn (hk : keyN k = some κ) (hc : cell hs n = some (.dcn kvs)) : Wp (popKD (.loc n) [k, d] hs) Q = match findN kvs κ with
    | some v => Q v (hs.set n (.dcn (dropN kvs κ)))
    | none => Q d hs := by
  rw [← cell_eq] at hc
  unfold popKD
  simp only [hk, hc]
  cases findN kvs κ <;> rfl
theorem wp_pop_dct0 (hk : keyN k = some κ) (hc : cell hs n = some (.dct [])) : Wp (popKD (.loc n) [k, d] hs) Q = Q d hs := by
  rw [← cell_eq] at hc
  unfold popKD
  simp only [hk, hc]
  rfl
end
end DL
set_option Elab.async false
set_option linter.all false
set_option maxRecDepth 100000
set_option maxHeartbeats 4000000
namespace DL.Row
open PySem PySem.Spec PyProof.Rows L2 DL

/-! ## tuples of whole numbers -/
def pd (r : List Int) : PyData := .tuple (r.map .int)
theorem pys_i {f : Nat → Option PyData} : ∀ {r : List Int}, D.pys f (r.map .int) = some (r.map .int)
  | [] => rfl
  | x :: r => by simp [D.pys, D.py, pys_i (r := r)]
theorem py_row {f : Nat → Option PyData} (r : List Int) : D.py f (tupI r) = some (pd r) := by
  unfold tupI pd
  simp [D.py, pys_i]
theorem data_row {hs : Hs} (r : List Int) : (tupI r).data hs = some (pd r) := py_row r
theorem pys_rows {f : Nat → Option PyData} : ∀ {rs : List (List Int)}, D.pys f (rs.map tupI) = some (rs.map pd)
  | [] => rfl
  | r :: rs => by simp [D.pys, py_row, pys_rows (rs := rs)]
theorem lay_is : ∀ {r : List Int}, PyData.canLayAll0 (r.map .int) = true
  | [] => by simp [PyData.canLayAll0]
  | x :: r => by simp [PyData.canLayAll0, PyData.canLay0, lay_is (r := r)]
theorem deep_is : ∀ {r : List Int}, PyData.depthAll (r.map PyData.int) ≤ 1
  | [] => by simp [PyData.depthAll]
  | x :: r => by
    have := deep_is (r := r)
    simp [PyData.depthAll, PyData.depth]
    omega
theorem deep_row (r : List Int) : (pd r).depth ≤ 2 := by
  have := deep_is (r := r)
  simp [pd, PyData.depth]
  omega
theorem lay_row (r : List Int) : (pd r).canLay0 = true := by simp [pd, PyData.canLay0, lay_is]
theorem lay_rows : ∀ {rs : List (List Int)}, PyData.canLayAll0 (rs.map pd) = true
  | [] => by simp [PyData.canLayAll0]
  | r :: rs => by simp [PyData.canLayAll0, lay_row, lay_rows (rs := rs)]
theorem deep_rows : ∀ {rs : List (List Int)}, PyData.depthAll (rs.map pd) ≤ 2
  | [] => by simp [PyData.depthAll]
  | r :: rs => by
    have := deep_rows (rs := rs)
    have := deep_row r
    simp [PyData.depthAll]
    omega
theorem shp_row (r : List Int) : SeqAt.shaped (pd r) = true := by
  have := deep_row r
  unfold SeqAt.shaped
  rw [lay_row]
  simp
  omega
theorem shp_rows (rs : List (List Int)) : SeqAt.shaped (.tuple (rs.map pd)) = true := by
  have := deep_rows (rs := rs)
  unfold SeqAt.shaped
  simp [PyData.canLay0, lay_rows, PyData.depth]
  omega
theorem shp_rowsL (rs : List (List Int)) : SeqAt.shaped (.list (rs.map pd)) = true := by
  have := deep_rows (rs := rs)
  unfold SeqAt.shaped
  simp [PyData.canLay0, lay_rows, PyData.depth]
  omega
theorem eqv_is : ∀ (a b : List Int), PyData.eqvAll (a.map .int) (b.map .int) = decide (a = b)
  | [], [] => by simp [PyData.eqvAll]
  | [], y :: b => by simp [PyData.eqvAll]
  | x :: a, [] => by simp [PyData.eqvAll]
  | x :: a, y :: b => by
    simp only [List.map_cons, PyData.eqvAll, PyData.eqv, eqv_is a b, List.cons.injEq]
    by_cases h : x = y <;> simp [h]
theorem eqv_row (a b : List Int) : PyData.eqv (pd a) (pd b) = decide (a = b) := by
  simp only [pd, PyData.eqv, eqv_is]
theorem eq_row {hs : Hs} (a b : List Int) : eqD hs (tupI a) (tupI b) = some (decide (a = b)) := by rw [eqD_of (data_row a) (data_row b) (shp_row a) (shp_row b), eqv_row]
theorem any_row (r : List Int) : ∀ rs : List (List Int), ((rs.map pd).any fun z => PyData.eqv z (pd r)) = decide (r ∈ rs)
  | [] => by simp
  | x :: rs => by
    simp only [List.map_cons, List.any_cons, any_row r rs, eqv_row, List.mem_cons]
    by_cases h : x = r
    · subst h; simp
    · have h' : r ≠ x := fun e => h e.symm
      simp [h, h']
theorem in_rows {hs : Hs} (r : List Int) (rs : List (List Int)) : inD hs (tupI r) (.tup (rs.map tupI)) = some (decide (r ∈ rs)) := by
  have e : D.data hs (.tup (rs.map tupI)) = some (.tuple (rs.map pd)) := by
    unfold D.data
    simp [D.py, pys_rows]
  rw [in_tup (data_row r) e (shp_row r) (shp_rows rs), any_row]
/-! order -/
theorem toks_lt : ∀ (a b : List Int), PyProof.Rows.lexLt itemOrd (PySem.W.keyToksAll (a.map .int)) (PySem.W.keyToksAll (b.map .int)) = decide (a < b)
  | [], [] => by simp [PySem.W.keyToksAll, PyProof.Rows.lexLt, itemOrd, itemLt]
  | [], y :: b => by simp [PySem.W.keyToksAll, PyProof.Rows.lexLt, itemOrd, itemLt]
  | x :: a, [] => by simp [PySem.W.keyToksAll, PyProof.Rows.lexLt, itemOrd, itemLt]
  | x :: a, y :: b => by
    have ih := toks_lt a b
    simp only [List.map_cons, PySem.W.keyToksAll, PySem.W.keyToks, List.singleton_append, PyProof.Rows.lexLt, ih]
    simp only [itemLt, List.cons_lt_cons_iff]
    rcases Int.lt_trichotomy x y with h | h | h
    · simp [h]
    · subst h; simp
    · have h1 : ¬ x < y := by omega
      have h2 : ¬ x = y := by omega
      simp [h, h1, h2]
theorem lt_row (a b : List Int) : PySem.W.dataLt (pd a) (pd b) = decide (a < b) := toks_lt a b
theorem alike_is : ∀ (a b : List Int), PySem.W.alikeAll (a.map .int) (b.map .int) = true
  | [], _ => by simp [PySem.W.alikeAll]
  | _ :: _, [] => by simp [PySem.W.alikeAll]
  | x :: a, y :: b => by simp [PySem.W.alikeAll, PySem.W.alike, alike_is a b]
theorem alike_row (a b : List Int) : PySem.W.alike (pd a) (pd b) = true := by simp [pd, PySem.W.alike, alike_is]
theorem wp_lt_row {hs : Hs} {Q : D → Hs → Prop} (a b : List Int) : Wp (cmpD .Lt (tupI a) (tupI b) hs) Q = Q (.bl (decide (a < b))) hs := by
  show Wp (ltD (tupI a) (tupI b) hs) Q = _
  have e : ltD (tupI a) (tupI b) = ordD (fun p q => PySem.W.dataLt p q) (tupI a) (tupI b) := rfl
  rw [e]
  unfold ordD
  simp only [data_row, alike_row, shp_row, lt_row]
  rfl
/-! the least of rows -/
theorem best_le {ps : List PyData} {rs : List (List Int)} (h : ps = rs.map pd) : ∀ k : Nat, k < rs.length → ∃ x, rs[argBest (fun i j => PySem.W.dataLt (ps.getD i .none) (ps.getD j .none)) k]? = some x ∧ ∀ j y, j ≤ k → rs[j]? = some y → ¬ y < x
  | 0, hk => ⟨rs[0], by simp [argBest, hk], fun j y hj hy => by
      obtain rfl : j = 0 := by omega
      rw [List.getElem?_eq_getElem hk] at hy
      cases hy
      exact row_irrefl _⟩
  | k + 1, hk => by
    obtain ⟨x, e, q⟩ := best_le h k (by omega)
    have d1 : ps.getD (k + 1) .none = pd rs[k + 1] := by subst h; simp [List.getD_eq_getElem?_getD, hk]
    have d2 : ps.getD (argBest (fun i j => PySem.W.dataLt (ps.getD i .none) (ps.getD j .none)) k) .none = pd x := by
      rw [List.getD_eq_getElem?_getD]
      conv => lhs; rw [h]
      rw [List.getElem?_map]
      rw [← h, e]
      rfl
    simp only [argBest, d1, d2, lt_row]
    by_cases c : rs[k + 1] < x
    · simp only [c, decide_true, if_true]
      refine ⟨rs[k + 1], by simp [hk], fun j y hj hy => ?_⟩
      by_cases z : j = k + 1
      · subst z
        rw [List.getElem?_eq_getElem hk] at hy
        cases hy
        exact row_irrefl _
      · exact fun l => q j y (by omega) hy (row_trans l c)
    · simp only [c, decide_false, Bool.false_eq_true, if_false]
      refine ⟨x, e, fun j y hj hy => ?_⟩
      by_cases z : j = k + 1
      · subst z
        rw [List.getElem?_eq_getElem hk] at hy
        cases hy
        exact c
      · exact q j y (by omega) hy
/-- min of a list of rows -/
theorem wp_min_rows {hs : Hs} {n : Nat} {rs : List (List Int)} {Q : D → Hs → Prop} (hc : cell hs n = some (.lst (rs.map tupI))) (h0 : rs ≠ []) (k : ∀ x, x ∈ rs → (∀ y ∈ rs, ¬ y < x) → Q (tupI x) hs) : Wp (min2 [.loc n] hs) Q := by
  have hl : 0 < rs.length := by cases rs <;> simp at h0 ⊢
  obtain ⟨x, e, q⟩ := best_le (ps := rs.map pd) rfl (rs.length - 1) (by omega)
  have m1 : minD [.loc n] hs = none := by
    cases rs with
    | nil => exact absurd rfl h0
    | cons r rs =>
      rw [← cell_eq] at hc
      unfold minD ofInts listOf
      simp only [hc, List.map_cons]
      unfold tupI
      simp [intsD]
  have ok : okBest (rs.map pd) = true := by
    unfold okBest
    simp only [Bool.and_eq_true]
    refine ⟨⟨⟨?_, ?_⟩, ?_⟩, ?_⟩
    · cases rs <;> simp at h0 ⊢
    · simp [alike_row]
    · simp [pd, pdNone]
    · simp only [List.all_eq_true, List.mem_map, decide_eq_true_eq]
      rintro _ ⟨r, _, rfl⟩
      have := deep_row r
      omega
  have b1 : bestD PySem.W.dataLt [.loc n] hs = some (tupI x, hs) := by
    rw [← cell_eq] at hc
    unfold bestD itemsW bestL
    simp only [hc, pys_rows, ok, if_true, bestAt, List.length_map, List.getElem?_map, e, Option.map_some]
  unfold min2
  rw [m1]
  simp only [b1]
  exact k x (List.mem_of_getElem? e) fun y hy => by
    obtain ⟨j, hj⟩ := List.mem_iff_getElem?.mp hy
    exact q j y (by have := (List.getElem?_eq_some_iff.mp hj).1; omega) hj
/-! ## rows as keys -/
def kI (r : List Int) : NestedKey := .tup (r.map .num)
theorem nkDs_i : ∀ (r : List Int), nkDs (r.map .int) = some (r.map .num)
  | [] => rfl
  | x :: r => by simp [nkDs, nkD, nkDs_i r]
theorem nkD_row (r : List Int) : nkD (tupI r) = some (kI r) := by simp [tupI, nkD, nkDs_i, kI]
theorem kI_inj {a b : List Int} (h : kI a = kI b) : a = b := by
  have h : a.map NestedKey.num = b.map NestedKey.num := NestedKey.tup.inj h
  exact (List.map_inj_right (fun x y e => NestedKey.num.inj e)).mp h
theorem depth_i : ∀ (r : List Int), NestedKey.depthAll (r.map .num) ≤ 1
  | [] => by simp [NestedKey.depthAll]
  | x :: r => by
    have := depth_i r
    simp [NestedKey.depthAll, NestedKey.depth]
    omega
theorem depth_row (r : List Int) : (kI r).depth ≤ 2 := by
  have := depth_i r
  simp [kI, NestedKey.depth]
  omega
theorem key_row (r : List Int) : keyN (tupI r) = some (kI r) := by
  have h := nkD_row r
  have d := depth_row r
  unfold tupI at *
  unfold keyN
  simp only [h]
  rw [if_pos (by omega)]
/-- a place and the rest: a key -/
def tupK (k : Nat × List Int) : D := .tup [.int (k.1 : Int), tupI k.2]
def kK (k : Nat × List Int) : NestedKey := .tup [.num (k.1 : Int), kI k.2]
theorem nkD_k (k : Nat × List Int) : nkD (tupK k) = some (kK k) := by
  have h := nkD_row k.2
  unfold tupK kK
  simp [nkD, nkDs, h]
theorem kK_inj {a b : Nat × List Int} (h : kK a = kK b) : a = b := by
  unfold kK at h
  simp only [NestedKey.tup.injEq, List.cons.injEq, NestedKey.num.injEq, and_true] at h
  obtain ⟨h1, h2⟩ := h
  exact Prod.ext (by omega) (kI_inj h2)
theorem key_k (k : Nat × List Int) : keyN (tupK k) = some (kK k) := by
  have h := nkD_k k
  have d := depth_row k.2
  have e : (kK k).depth ≤ 3 := by
    simp [kK, NestedKey.depth, NestedKey.depthAll]
    omega
  unfold tupK at *
  unfold keyN
  simp only [h]
  rw [if_pos (by omega)]
/-! ## dicts by rows, as lists of pairs -/
section
variable {α : Type} {key : α → D} {kn : α → NestedKey} {kv : α → D}
theorem find_map [DecidableEq α] {β : Type} {f : β → α} {g : β → D} {key : α → D} {kn : α → NestedKey} (h1 : ∀ a, nkD (key a) = some (kn a)) (h2 : ∀ {a b}, kn a = kn b → a = b) (a : α) : ∀ ps : List β, findN (ps.map fun p => (key (f p), g p)) (kn a) = (ps.find? fun p => decide (f p = a)).map g
  | [] => rfl
  | p :: ps => by
    rw [List.map_cons, List.find?_cons]
    by_cases c : f p = a
    · rw [find_pos (by rw [h1, c])]
      simp [c]
    · rw [find_neg (fun e => c (h2 (by rw [h1] at e; exact Option.some.inj e))), find_map h1 h2 a ps]
      simp [c]
theorem drop_map [DecidableEq α] {β : Type} {f : β → α} {g : β → D} {key : α → D} {kn : α → NestedKey} (h1 : ∀ a, nkD (key a) = some (kn a)) (h2 : ∀ {a b}, kn a = kn b → a = b) (a : α) : ∀ ps : List β, dropN (ps.map fun p => (key (f p), g p)) (kn a) = (ps.filter fun p => decide (f p ≠ a)).map fun p => (key (f p), g p)
  | [] => rfl
  | p :: ps => by
    have ih := drop_map (f := f) (g := g) h1 h2 a ps
    unfold dropN at ih ⊢
    rw [List.map_cons, List.filter_cons, List.filter_cons, ih]
    by_cases c : f p = a
    · simp [h1, c]
    · have : ¬ kn (f p) = kn a := fun e => c (h2 e)
      simp [h1, c, this]
end
end DL.Row
set_option Elab.async false
set_option linter.all false
set_option maxRecDepth 100000
set_option maxHeartbeats 4000000
namespace DL.Row
open PySem PySem.Spec PyProof.Rows L2 DL

/-! ## rows, lots: the texts that laws share -/
noncomputable def b_is_row_of : Ev → S := (seqS (retS (andV (callF 3 r_is_sized (consM (varD 0) (consM (varD 1) (consM (varD 1) (fun _ => M.pure []))))) (callM allD (consM (compM [2] (.one 2) (seqM (varD 0)) (fun _ => M.pure true) (callF 1 r_is_integer (consM (varD 2) (fun _ => M.pure [])))) (fun _ => M.pure [])))))
  nextS)
noncomputable def r_is_row_of : List D → M D := runB 3 b_is_row_of
noncomputable def b_is_row : Ev → S := (seqS (retS (andV (callM isiD (consM (varD 0) (consM (fun _ => M.pure (.ty "tuple")) (fun _ => M.pure [])))) (andV (callF 1 r_is_many (consM (callM lenD (consM (varD 0) (fun _ => M.pure []))) (fun _ => M.pure []))) (callF 2 r_is_row_of (consM (varD 0) (consM (callM lenD (consM (varD 0) (fun _ => M.pure []))) (fun _ => M.pure [])))))))
  nextS)
noncomputable def r_is_row : List D → M D := runB 1 b_is_row
noncomputable def b_are_rising : Ev → S := (seqS (retS (callM allD (consM (compM [1, 2] (.many [1, 2]) (fun e => M.bind ((consM (varD 0) (consM (sliceM (varD 0) (fun v => M.bind ((fun _ => M.pure (.int 1)) v) partD) (fun _ => M.pure none)) (fun _ => M.pure []))) e) zipSrc) (fun _ => M.pure true) (op2 (cmpD .Lt) (varD 1) (varD 2))) (fun _ => M.pure []))))
  nextS)
noncomputable def r_are_rising : List D → M D := runB 3 b_are_rising
noncomputable def b_is_lot : Ev → S := (seqS (ifS (orM (notM (truth (callM isiD (consM (varD 0) (consM (fun _ => M.pure (.ty "tuple")) (fun _ => M.pure [])))))) (orM (asTest (op2 (cmpD .Eq) (callM lenD (consM (varD 0) (fun _ => M.pure []))) (fun _ => M.pure (.int 0)))) (notM (truth (callF 1 r_is_row (consM (op2 ixD (varD 0) (fun _ => M.pure (.int 0))) (fun _ => M.pure [])))))))
  (seqS (retS (fun _ => M.pure (.bl false)))
  nextS)
  nextS)
  (seqS (retS (andV (callM allD (consM (compM [1] (.one 1) (seqM (varD 0)) (fun _ => M.pure true) (callF 2 r_is_row_of (consM (varD 1) (consM (callM lenD (consM (op2 ixD (varD 0) (fun _ => M.pure (.int 0))) (fun _ => M.pure []))) (fun _ => M.pure []))))) (fun _ => M.pure []))) (callF 1 r_are_rising (consM (varD 0) (fun _ => M.pure [])))))
  nextS))
noncomputable def r_is_lot : List D → M D := runB 2 b_is_lot
noncomputable def b_check_lot : Ev → S := (seqS (ifS (notM (truth (callF 1 r_is_lot (consM (varD 0) (fun _ => M.pure [])))))
  (seqS (raise0 "NoLot")
  nextS)
  nextS)
  nextS)
noncomputable def r_check_lot : List D → M D := runB 1 b_check_lot
noncomputable def b_check_in : Ev → S := (seqS (ifS (orM (notM (truth (callF 2 r_is_row_of (consM (varD 1) (consM (callM lenD (consM (op2 ixD (varD 0) (fun _ => M.pure (.int 0))) (fun _ => M.pure []))) (fun _ => M.pure [])))))) (asTest (op2 (cmpD .NotIn) (varD 1) (varD 0))))
  (seqS (raise0 "NoRow")
  nextS)
  nextS)
  nextS)
noncomputable def r_check_in : List D → M D := runB 2 b_check_in
noncomputable def b_raw_rest : Ev → S := (seqS (retS (tupM (consM (varD 1) (consM (op2 (binD .Add) (sliceM (varD 0) (fun _ => M.pure none) (fun v => M.bind ((varD 1) v) partD)) (sliceM (varD 0) (fun v => M.bind ((op2 (binD .Add) (varD 1) (fun _ => M.pure (.int 1))) v) partD) (fun _ => M.pure none))) (fun _ => M.pure [])))))
  nextS)
noncomputable def r_raw_rest : List D → M D := runB 2 b_raw_rest
noncomputable def b_steps_from : Ev → S := (seqS (asgS (.one 2) (dispN (varD 1) (fun _ => M.pure (.int 0))))
  (seqS (asgS (.one 3) (lstM (consM (varD 1) (fun _ => M.pure []))))
  (seqS (asgS (.one 4) (fun _ => M.pure (.int 0)))
  (seqS (whileS (asTest (op2 (cmpD .Lt) (varD 4) (callM lenD (consM (varD 3) (fun _ => M.pure [])))))
  (seqS (asgS (.one 5) (op2 ixD (varD 3) (varD 4)))
  (seqS (augS .Add 4 (fun _ => M.pure (.int 1)))
  (seqS (loopS (.one 6) (rngM 1 (consM (callM lenD (consM (varD 5) (fun _ => M.pure []))) (fun _ => M.pure [])))
  (seqS (loopS (.one 7) (seqM (methM "dict" popKD (varD 0) (consM (callF 2 r_raw_rest (consM (varD 5) (consM (varD 6) (fun _ => M.pure [])))) (consM (lstM (fun _ => M.pure [])) (fun _ => M.pure [])))))
  (seqS (ifS (asTest (op2 (cmpD .NotIn) (varD 7) (varD 2)))
  (seqS (setS (op2 (binD .Add) (op2 ixD (varD 2) (varD 5)) (fun _ => M.pure (.int 1))) (varD 2) (varD 7))
  (seqS (dropS (methM "list" appendD (varD 3) (consM (varD 7) (fun _ => M.pure []))))
  nextS))
  nextS)
  nextS))
  nextS))
  nextS))))
  (seqS (retS (varD 2))
  nextS)))))
noncomputable def r_steps_from : List D → M D := runB 8 b_steps_from
noncomputable def b_rows_by_rests : Ev → S := (seqS (asgS (.one 1) nilDict)
  (seqS (loopS (.one 2) (seqM (varD 0))
  (seqS (loopS (.one 3) (rngM 1 (consM (callM lenD (consM (varD 2) (fun _ => M.pure []))) (fun _ => M.pure [])))
  (seqS (dropS (methM "list" appendD (methM "dict" setdefD (varD 1) (consM (callF 2 r_raw_rest (consM (varD 2) (consM (varD 3) (fun _ => M.pure [])))) (consM (lstM (fun _ => M.pure [])) (fun _ => M.pure [])))) (consM (varD 2) (fun _ => M.pure []))))
  nextS))
  nextS))
  (seqS (retS (varD 1))
  nextS)))
noncomputable def r_rows_by_rests : List D → M D := runB 4 b_rows_by_rests
noncomputable def b_nearer_rows : Ev → S := (seqS (asgS (.one 3) (lstM (fun _ => M.pure [])))
  (seqS (loopS (.one 4) (rngM 1 (consM (callM lenD (consM (varD 2) (fun _ => M.pure []))) (fun _ => M.pure [])))
  (seqS (dropS (methM "list" extendD (varD 3) (consM (compM [5] (.one 5) (seqM (op2 ixD (varD 0) (callF 2 r_raw_rest (consM (varD 2) (consM (varD 4) (fun _ => M.pure [])))))) (asTest (op2 (cmpD .Lt) (op2 ixD (varD 1) (varD 5)) (op2 ixD (varD 1) (varD 2)))) (varD 5)) (fun _ => M.pure []))))
  nextS))
  (seqS (retS (varD 3))
  nextS)))
noncomputable def r_nearer_rows : List D → M D := runB 6 b_nearer_rows
noncomputable def b_raw_way : Ev → S := (seqS (asgS (.one 3) (callF 2 r_steps_from (consM (callF 1 r_rows_by_rests (consM (varD 0) (fun _ => M.pure []))) (consM (varD 2) (fun _ => M.pure [])))))
  (seqS (ifS (asTest (op2 (cmpD .NotIn) (varD 1) (varD 3)))
  (seqS (retS (fun _ => M.pure .non))
  nextS)
  nextS)
  (seqS (asgS (.one 4) (callF 1 r_rows_by_rests (consM (varD 0) (fun _ => M.pure []))))
  (seqS (asgS (.one 5) (lstM (consM (varD 1) (fun _ => M.pure []))))
  (seqS (whileS (asTest (op2 (cmpD .NotEq) (op2 ixD (varD 5) (negV (fun _ => M.pure (.int 1)))) (varD 2)))
  (seqS (dropS (methM "list" appendD (varD 5) (consM (callM min2 (consM (callF 3 r_nearer_rows (consM (varD 4) (consM (varD 3) (consM (op2 ixD (varD 5) (negV (fun _ => M.pure (.int 1)))) (fun _ => M.pure []))))) (fun _ => M.pure []))) (fun _ => M.pure []))))
  nextS))
  (seqS (retS (callM tupleD (consM (varD 5) (fun _ => M.pure []))))
  nextS))))))
noncomputable def r_raw_way : List D → M D := runB 6 b_raw_way
/-! ### what they tell -/
section
variable {hs : Hs} {Q : Except Ex D → Hs → Prop}
theorem sz {n : Nat} (h : n ≤ 1000) : n ≤ sizeLine := Nat.le_of_lt (small1000 h)
theorem kn_row {r : List Int} : Kn hs (tupI r) := .tup
theorem tupI_eq (r : List Int) : tupI r = .tup (r.map .int) := rfl
theorem fm_true {xs : List D} : xs.filterMap (fun _ => some (D.bl true)) = List.replicate xs.length (.bl true) := by
  induction xs with
  | nil => rfl
  | cons x xs ih => rw [List.filterMap_cons, ih]; rfl
@[simp] theorem flags_rep : ∀ n : Nat, flags (List.replicate n (.bl true)) = some (List.replicate n true)
  | 0 => rfl
  | n + 1 => by simp [List.replicate_succ, flags, flags_rep n]
@[simp] theorem all_rep {n : Nat} : (List.replicate n true).all id = true := by
  rw [List.all_eq_true]
  intro x hx
  rw [(List.mem_replicate.mp hx).2]
  rfl
/-- all([f(x) for x in xs]) of a sequence -/
theorem is_row_of_ok {r : List Int} {many : Int} (hl : r.length ≤ 1000) (q : ∀ h, Gr [] hs h → Q (.ok (.bl (decide ((r.length : Int) = many)))) h) : Wp (r_is_row_of [tupI r, .int many] hs) Q := by
  unfold r_is_row_of b_is_row_of
  simp [is_sized_ok kn_row]
  have e : sized many many (tupI r) = decide ((r.length : Int) = many) := by
    simp only [tupI, sized, List.length_map]
    by_cases h : (r.length : Int) = many
    · simp [h]
    · by_cases h2 : many ≤ r.length
      · have : ¬ (r.length : Int) ≤ many := by omega
        simp [h, this]
      · simp [h, h2]
  rw [e]
  by_cases h : (r.length : Int) = many
  · simp [h]
    rw [tupI_eq]
    simp
    refine wp_comp_grow [] (fun _ => some (.bl true)) (fun _ _ => trivial) (by simpa using hl) (fun d h1 hd g => ?_) fun h1 g => ?_
    · obtain ⟨x, _, rfl⟩ := List.mem_map.mp hd
      simp [Kn.int, isInt]
      exact .refl
    · rw [fm_true]
      simp
      rw [decide_eq_true h] at q
      exact q _ (g.trans .push)
  · simp [h]
    rw [decide_eq_false h] at q
    exact q _ .refl
theorem is_row_ok {r : List Int} (h3 : 3 ≤ r.length) (h5 : r.length ≤ 5) (q : ∀ h, Gr [] hs h → Q (.ok (.bl true)) h) : Wp (r_is_row [tupI r] hs) Q := by
  unfold r_is_row b_is_row
  simp
  rw [tupI_eq]
  simp [is_many_ok Kn.int, within]
  have a : (3 : Int) ≤ r.length := by omega
  have b : (r.length : Int) ≤ 5 := by omega
  have c : ¬ (5 : Int) < r.length := by omega
  simp [a, b, c]
  rw [← tupI_eq]
  refine is_row_of_ok (r := r) (by omega) fun h g => ?_
  simp
  exact q h g
def riseL : List (List Int) → List Bool
  | a :: b :: r => decide (a < b) :: riseL (b :: r)
  | _ => []
def ltR : D → Option D
  | .tup [a, b] => match rowOf a, rowOf b with
    | some x, some y => some (.bl (decide (x < y)))
    | _, _ => none
  | _ => none
theorem intsD_map : ∀ {ks : List Int}, intsD (ks.map D.int) = some ks
  | [] => rfl
  | k :: ks => by simp [intsD, intsD_map (ks := ks)]
theorem rowOf_row (r : List Int) : rowOf (tupI r) = some r := intsD_map
theorem rise_all : ∀ rs : List (List Int), (zipL (rs.map tupI) ((rs.map tupI).drop 1)).filterMap ltR = (riseL rs).map .bl
  | [] => rfl
  | [_] => rfl
  | a :: b :: r => by
    have ih := rise_all (b :: r)
    simp only [List.map_cons, List.drop_succ_cons, List.drop_zero] at ih ⊢
    simp only [zipL, riseL, List.map_cons, List.filterMap_cons, ltR, rowOf_row]
    rw [← ih]
theorem zip_rows : ∀ {rs ts : List (List Int)} {d : D}, d ∈ zipL (rs.map tupI) (ts.map tupI) → ∃ a b, d = .tup [tupI a, tupI b]
  | [], _, _, h => by simp [zipL] at h
  | _ :: _, [], _, h => by simp [zipL] at h
  | a :: rs, b :: ts, d, h => by
    simp only [List.map_cons, zipL, List.mem_cons] at h
    rcases h with rfl | h
    · exact ⟨a, b, rfl⟩
    · exact zip_rows h
theorem rise_true : ∀ {rs : List (List Int)}, rs.Pairwise (· < ·) → (riseL rs).all id = true
  | [], _ => rfl
  | [_], _ => rfl
  | a :: b :: r, h => by
    have h1 := List.pairwise_cons.mp h
    simp [riseL, h1.1 b (by simp), rise_true h1.2]
theorem cut_from {xs : List D} {n : Int} (h : 0 ≤ n) : cutD xs (some n) none = xs.drop n.toNat := by
  unfold cutD HT.sIx
  simp only
  rw [if_neg (by omega)]
  rcases Nat.le_total n.toNat xs.length with c | c
  · simp [Nat.min_eq_left c]
    exact List.take_of_length_le (by simp)
  · simp [Nat.min_eq_right c, List.drop_eq_nil_of_le c]
theorem are_rising_ok {rs : List (List Int)} (hl : rs.length ≤ 1000) (hp : rs.Pairwise (· < ·)) (q : ∀ h, Gr [] hs h → Q (.ok (.bl true)) h) : Wp (r_are_rising [.tup (rs.map tupI)] hs) Q := by
  unfold r_are_rising b_are_rising
  simp [cut_from]
  rw [show (rs.map tupI).tail = (rs.map tupI).drop 1 from by simp]
  refine wp_comp_grow [] ltR (fun _ _ => trivial) (by rw [zipL_len]; simp; omega) (fun d h1 hd g => ?_) fun h1 g => ?_
  · rw [← List.map_drop] at hd
    obtain ⟨a, b, rfl⟩ := zip_rows hd
    simp [wp_lt_row, ltR, rowOf_row]
    exact .refl
  · rw [rise_all]
    simp [flags_bl, rise_true hp]
    exact q _ (g.trans .push)
/-- rows of one length, rising -/
structure Lot (many : Nat) (rs : List (List Int)) : Prop where
  some_ : rs ≠ []
  len : ∀ r ∈ rs, r.length = many
  lo : 3 ≤ many
  hi : many ≤ 5
  up : rs.Pairwise (· < ·)
  few : rs.length ≤ 1000
def tupR (rs : List (List Int)) : D := .tup (rs.map tupI)
theorem Lot.nodup {many : Nat} {rs : List (List Int)} (L : Lot many rs) : rs.Nodup := L.up.imp fun {a b} (h : a < b) (e : a = b) => row_irrefl a (by subst e; exact h)
theorem Lot.first {many : Nat} {rs : List (List Int)} (L : Lot many rs) : ∃ r0, rs[0]? = some r0 ∧ r0.length = many := by
  cases rs with
  | nil => exact absurd rfl L.some_
  | cons a b => exact ⟨a, rfl, L.len a (by simp)⟩
theorem is_lot_ok {many : Nat} {rs : List (List Int)} (L : Lot many rs) (q : ∀ h, Gr [] hs h → Q (.ok (.bl true)) h) : Wp (r_is_lot [tupR rs] hs) Q := by
  obtain ⟨r0, e0, l0⟩ := L.first
  have h0 := L.some_
  have := L.lo
  have := L.hi
  unfold r_is_lot b_is_lot tupR
  simp [h0, e0]
  refine is_row_ok (by omega) (by omega) fun h g => ?_
  simp
  refine wp_comp_grow [] (fun _ => some (.bl true)) (fun _ _ => trivial) (by simpa using L.few) (fun d h1 hd g1 => ?_) fun h1 g1 => ?_
  · obtain ⟨r, hr, rfl⟩ := List.mem_map.mp hd
    have lr := L.len r hr
    simp [e0]
    rw [tupI_eq r0]
    simp
    refine is_row_of_ok (by omega) fun h2 g2 => ?_
    simp [lr, l0]
    exact g2
  · rw [fm_true]
    simp
    refine are_rising_ok L.few L.up fun h2 g2 => ?_
    simp
    exact q _ ((g.trans (g1.trans .push)).trans g2)
theorem check_lot_ok {many : Nat} {rs : List (List Int)} (L : Lot many rs) (q : ∀ h, Gr [] hs h → Q (.ok .non) h) : Wp (r_check_lot [tupR rs] hs) Q := by
  unfold r_check_lot b_check_lot
  simp
  refine is_lot_ok L fun h g => ?_
  simp
  exact q _ g
theorem check_in_ok {many : Nat} {rs : List (List Int)} {r : List Int} (L : Lot many rs) (hr : r ∈ rs) (q : ∀ h, Gr [] hs h → Q (.ok .non) h) : Wp (r_check_in [tupR rs, tupI r] hs) Q := by
  obtain ⟨r0, e0, l0⟩ := L.first
  have lr := L.len r hr
  have := L.lo
  have := L.hi
  unfold r_check_in b_check_in tupR
  simp [-wp_cmpNotIn, e0]
  rw [tupI_eq r0]
  simp [-wp_cmpNotIn]
  refine is_row_of_ok (by omega) fun h g => ?_
  simp [-wp_cmpNotIn, l0, lr]
  rw [wp_cmpNotIn, in_rows]
  simp [hr]
  exact q _ g
/-- the rest beside a place -/
def rest (r : List Int) (i : Nat) : List Int := r.take i ++ r.drop (i + 1)
theorem raw_rest_ok {r : List Int} {i : Nat} (hl : r.length ≤ 1000) : Wp (r_raw_rest [tupI r, .int i] hs) Q = Q (.ok (tupK (i, rest r i))) hs := by
  unfold r_raw_rest b_raw_rest
  have e1 : cutD (r.map D.int) (some ((i : Int) + 1)) none = (r.map D.int).drop (i + 1) := by
    rw [cut_from (by omega)]
    congr 1
  have h1 : (min i r.length + (r.length - (i + 1))) ≤ sizeLine := sz (by omega)
  simp [tupI_eq, cut_nil, e1, tupK, rest, h1]
end
end DL.Row
set_option Elab.async false
set_option linter.all false
set_option maxRecDepth 100000
set_option maxHeartbeats 4000000
namespace DL.Row
open PySem PySem.Spec PyProof.Rows L2 DL

/-! ## a dict by tuples, empty or not -/
def DAt (h : Hs) (n : Nat) (kvs : List (D × D)) : Prop := cell h n = some (.dcn kvs) ∨ (kvs = [] ∧ cell h n = some (.dct []))
theorem DAt.lt {h : Hs} {n : Nat} {kvs : List (D × D)} (d : DAt h n kvs) : n < h.length := by
  rcases d with d | ⟨_, d⟩ <;> exact cell_lt d
theorem DAt.gr {S : List Nat} {hs h : Hs} {n : Nat} {kvs : List (D × D)} (d : DAt hs n kvs) (g : Gr S hs h) (hn : n ∉ S) : DAt h n kvs := by
  rcases d with d | ⟨e, d⟩
  · exact .inl (g.get d hn)
  · exact .inr ⟨e, g.get d hn⟩
section
variable {hs : Hs} {n : Nat} {k v d : D} {κ : NestedKey} {kvs : List (D × D)} {Q : D → Hs → Prop}
theorem wp_in_at (hk : keyN k = some κ) (hc : DAt hs n kvs) : Wp (cmpD .In k (.loc n) hs) Q = Q (.bl (findN kvs κ).isSome) hs := by
  rcases hc with hc | ⟨rfl, hc⟩
  · exact wp_in_dcn hk hc
  · exact wp_in_dct0 hk hc
theorem wp_notIn_at (hk : keyN k = some κ) (hc : DAt hs n kvs) : Wp (cmpD .NotIn k (.loc n) hs) Q = Q (.bl (!(findN kvs κ).isSome)) hs := by
  rcases hc with hc | ⟨rfl, hc⟩
  · exact wp_notIn_dcn hk hc
  · exact wp_notIn_dct0 hk hc
theorem wp_ix_at {d : D} (hk : keyN k = some κ) (hc : DAt hs n kvs) (hf : findN kvs κ = some d) (q : Q d hs) : Wp (ixD (.loc n) k hs) Q := by
  rcases hc with hc | ⟨rfl, hc⟩
  · rw [wp_ix_dcn hk hc]; exact ⟨d, hf, q⟩
  · cases hf
theorem wp_set_at {e : Ev} {R : Fl → Hs → Prop} (hk : keyN k = some κ) (hc : DAt hs n kvs) (hz : kvs.length ≤ 1000) (q : R (.nx e) (hs.set n (.dcn (putN kvs κ k v)))) : Wp (setK (.loc n) k v e hs) R := by
  rcases hc with hc | ⟨rfl, hc⟩
  · rw [wp_set_dcn hk hc]; exact ⟨small1000 hz, q⟩
  · rw [wp_set_dct0 hk hc]; exact q
theorem wp_chk_at {Q : Except Ex Unit → Hs → Prop} (hc : DAt hs n kvs) : Wp (chkTy "dict" (.loc n) hs) Q = Q (.ok ()) hs := by
  rcases hc with hc | ⟨rfl, hc⟩
  · exact wp_chk_dict (.inl ⟨_, hc⟩)
  · exact wp_chk_dict (.inr ⟨_, hc⟩)
theorem wp_setdef_at (hk : keyN k = some κ) (hc : DAt hs n kvs) (hz : kvs.length ≤ 1000) (q1 : ∀ v, findN kvs κ = some v → Q v hs) (q2 : findN kvs κ = none → Q d (hs.set n (.dcn (kvs ++ [(k, d)])))) : Wp (setdefD (.loc n) [k, d] hs) Q := by
  rcases hc with hc | ⟨rfl, hc⟩
  · rw [wp_setdef_dcn hk hc]
    cases e : findN kvs κ with
    | some v => exact q1 v e
    | none =>
      refine ⟨small1000 hz, ?_⟩
      have := q2 e
      unfold putN
      simp [e]
      exact this
  · rw [wp_setdef_dct0 hk hc]
    exact q2 rfl
theorem wp_pop_at (hk : keyN k = some κ) (hc : DAt hs n kvs) (q1 : ∀ v, findN kvs κ = some v → Q v (hs.set n (.dcn (dropN kvs κ)))) (q2 : findN kvs κ = none → Q d hs) : Wp (popKD (.loc n) [k, d] hs) Q := by
  rcases hc with hc | ⟨rfl, hc⟩
  · rw [wp_pop_dcn hk hc]
    cases e : findN kvs κ with
    | some v => exact q1 v e
    | none => exact q2 e
  · rw [wp_pop_dct0 hk hc]
    exact q2 rfl
theorem wp_dispNK {h : Hs} {Q : Except Ex D → Hs → Prop} (hk : keyN k = some κ) (hc : cell h n = some (.dcn [])) : Wp (dispNK n k v h) Q = Q (.ok (.loc n)) (h.set n (.dcn [(k, v)])) := by
  rw [← cell_eq] at hc
  unfold dispNK
  simp only [hk, hc]
  rfl
theorem wp_dispN {fk fv : Ev → M D} {e : Ev} {Q : Except Ex D → Hs → Prop} : Wp (dispN fk fv e hs) Q = Wp (fk e (hs ++ [.dcn []])) (onOk (fun k => M.bind (fv e) (dispNK hs.length k)) Q) := by
  unfold dispN; rw [wp_bind]
end
/-! ## what is near -/
theorem rest_get {r : List Int} {i j : Nat} (h : i < r.length) : (rest r i)[j]? = if j < i then r[j]? else r[j + 1]? := by
  unfold rest
  by_cases c : j < i
  · rw [if_pos c, List.getElem?_append_left (by simp; omega), List.getElem?_take, if_pos c]
  · rw [if_neg c, List.getElem?_append_right (by simp; omega), List.getElem?_drop]
    congr 1
    simp
    omega
theorem rest_eq {a b : List Int} {i : Nat} (ha : i < a.length) (hl : a.length = b.length) : rest a i = rest b i ↔ ∀ j, j ≠ i → a[j]? = b[j]? := by
  constructor
  · intro h j hj
    rcases Nat.lt_or_gt_of_ne hj with c | c
    · have := congrArg (fun l => l[j]?) h
      simp only [rest_get ha, rest_get (hl ▸ ha), if_pos c] at this
      exact this
    · have := congrArg (fun l => l[j - 1]?) h
      simp only [rest_get ha, rest_get (hl ▸ ha)] at this
      rw [if_neg (by omega), if_neg (by omega), show j - 1 + 1 = j by omega] at this
      exact this
  · intro h
    apply List.ext_getElem?
    intro j
    rw [rest_get ha, rest_get (hl ▸ ha)]
    by_cases c : j < i
    · rw [if_pos c, if_pos c]; exact h j (by omega)
    · rw [if_neg c, if_neg c]; exact h (j + 1) (by omega)
/-- they differ in one place -/
def nr (a b : List Int) : Prop := a ≠ b ∧ ∃ i, i < a.length ∧ rest a i = rest b i
theorem nr.symm {a b : List Int} (h : nr a b) (hl : a.length = b.length) : nr b a := by
  obtain ⟨h1, i, h2, h3⟩ := h
  exact ⟨fun e => h1 e.symm, i, by omega, h3.symm⟩
/-! ## the groups -/
abbrev Grp := (Nat × List Int) × Nat × List (List Int)
def gD (gs : List Grp) : List (D × D) := gs.map fun g => (tupK g.1, D.loc g.2.1)
theorem gD_len (gs : List Grp) : (gD gs).length = gs.length := List.length_map ..
theorem gD_find (k : Nat × List Int) (gs : List Grp) : findN (gD gs) (kK k) = (gs.find? fun g => decide (g.1 = k)).map fun g => .loc g.2.1 := find_map (f := fun g : Grp => g.1) (g := fun g => D.loc g.2.1) nkD_k kK_inj k gs
theorem gD_drop (k : Nat × List Int) (gs : List Grp) : dropN (gD gs) (kK k) = gD (gs.filter fun g => decide (g.1 ≠ k)) := drop_map (f := fun g : Grp => g.1) (g := fun g => D.loc g.2.1) nkD_k kK_inj k gs
/-- groups as they lie in the heap -/
structure GH (lo n : Nat) (gs : List Grp) (h : Hs) : Prop where
  dict : DAt h n (gD gs)
  cells : ∀ g ∈ gs, cell h g.2.1 = some (.lst (g.2.2.map tupI))
  low : ∀ g ∈ gs, lo ≤ g.2.1 ∧ g.2.1 ≠ n
  inj : ∀ a ∈ gs, ∀ b ∈ gs, (a.1 = b.1 ∨ a.2.1 = b.2.1) → a = b
theorem GH.gr {lo n : Nat} {gs : List Grp} {S : List Nat} {hs h : Hs} (H : GH lo n gs hs) (g : Gr S hs h) (hS : ∀ m ∈ S, m ≠ n ∧ ∀ g ∈ gs, g.2.1 ≠ m) : GH lo n gs h :=
  ⟨H.dict.gr g (fun q => (hS n q).1 rfl), fun a ha => g.get (H.cells a ha) (fun q => (hS _ q).2 a ha rfl), H.low, H.inj⟩
/-- whom the groups hold: the pairs of a row and a place -/
structure GM (ps : List (List Int × Nat)) (gs : List Grp) : Prop where
  mem : ∀ g ∈ gs, ∀ s, s ∈ g.2.2 ↔ (s, g.1.1) ∈ ps ∧ rest s g.1.1 = g.1.2
  all_ : ∀ p ∈ ps, ∃ g ∈ gs, g.1 = (p.2, rest p.1 p.2)
  len : gs.length ≤ ps.length
  few : ∀ g ∈ gs, g.2.2.length ≤ ps.length
def addG (gs : List Grp) (k : Nat × List Int) (r : List Int) : List Grp := gs.map fun g => if g.1 = k then (g.1, g.2.1, g.2.2 ++ [r]) else g
theorem gD_add (gs : List Grp) (k : Nat × List Int) (r : List Int) : gD (addG gs k r) = gD gs := by
  unfold gD addG
  rw [List.map_map]
  refine List.map_congr_left fun g _ => ?_
  simp only [Function.comp]
  by_cases c : g.1 = k <;> simp [c]
theorem mem_addG {gs : List Grp} {k : Nat × List Int} {r : List Int} {g : Grp} : g ∈ addG gs k r ↔ ∃ a ∈ gs, g = if a.1 = k then (a.1, a.2.1, a.2.2 ++ [r]) else a := by
  unfold addG
  rw [List.mem_map]
  exact ⟨fun ⟨a, h, e⟩ => ⟨a, h, e.symm⟩, fun ⟨a, h, e⟩ => ⟨a, h, e.symm⟩⟩
theorem add_same {a : Grp} {k : Nat × List Int} {r : List Int} : (if a.1 = k then (a.1, a.2.1, a.2.2 ++ [r]) else a).1 = a.1 ∧ (if a.1 = k then (a.1, a.2.1, a.2.2 ++ [r]) else a).2.1 = a.2.1 := by
  by_cases c : a.1 = k <;> simp [c]
theorem GM.add {ps : List (List Int × Nat)} {gs : List Grp} {r : List Int} {i : Nat} (M : GM ps gs) (hg : ∃ g ∈ gs, g.1 = (i, rest r i)) : GM (ps ++ [(r, i)]) (addG gs (i, rest r i) r) := by
  refine ⟨fun g hg s => ?_, fun p hp => ?_, ?_, fun g hg => ?_⟩
  · obtain ⟨a, ha, rfl⟩ := mem_addG.mp hg
    have m := M.mem a ha s
    by_cases c : a.1 = (i, rest r i)
    · rw [if_pos c]
      simp only [List.mem_append, List.mem_singleton, m, Prod.mk.injEq]
      have c1 : a.1.1 = i := by rw [c]
      have c2 : a.1.2 = rest r i := by rw [c]
      constructor
      · rintro (⟨h1, h2⟩ | rfl)
        · exact ⟨.inl h1, h2⟩
        · exact ⟨.inr ⟨rfl, c1⟩, by rw [c1, c2]⟩
      · rintro ⟨h1 | ⟨h1, _⟩, h2⟩
        · exact .inl ⟨h1, h2⟩
        · exact .inr h1
    · rw [if_neg c, m]
      simp only [List.mem_append, List.mem_singleton, Prod.mk.injEq]
      constructor
      · rintro ⟨h1, h2⟩
        exact ⟨.inl h1, h2⟩
      · rintro ⟨h1 | ⟨rfl, h1⟩, h2⟩
        · exact ⟨h1, h2⟩
        · exact absurd (Prod.ext h1 (by rw [← h2, h1])) c
  · have key : ∀ k, (∃ g ∈ gs, g.1 = k) → ∃ g ∈ addG gs (i, rest r i) r, g.1 = k := fun k ⟨g, h, e⟩ => ⟨_, mem_addG.mpr ⟨g, h, rfl⟩, by rw [add_same.1]; exact e⟩
    rcases List.mem_append.mp hp with hp | hp
    · exact key _ (M.all_ p hp)
    · rw [List.mem_singleton.mp hp]
      exact key _ hg
  · have := M.len
    unfold addG
    simp
    omega
  · obtain ⟨a, ha, rfl⟩ := mem_addG.mp hg
    have := M.few a ha
    by_cases c : a.1 = (i, rest r i) <;> simp [c] <;> omega
theorem GM.new {ps : List (List Int × Nat)} {gs : List Grp} {r : List Int} {i l : Nat} (M : GM ps gs) (hg : ∀ g ∈ gs, g.1 ≠ (i, rest r i)) : GM (ps ++ [(r, i)]) (gs ++ [((i, rest r i), l, [r])]) := by
  refine ⟨fun g hg' s => ?_, fun p hp => ?_, ?_, fun g hg => ?_⟩
  · rcases List.mem_append.mp hg' with h | h
    · rw [M.mem g h]
      simp only [List.mem_append, List.mem_singleton, Prod.mk.injEq]
      constructor
      · rintro ⟨h1, h2⟩
        exact ⟨.inl h1, h2⟩
      · rintro ⟨h1 | ⟨rfl, h1⟩, h2⟩
        · exact ⟨h1, h2⟩
        · exact absurd (Prod.ext h1 (by rw [← h2, h1])) (hg g h)
    · rw [List.mem_singleton.mp h]
      simp only [List.mem_append, List.mem_singleton, Prod.mk.injEq]
      constructor
      · rintro rfl
        exact ⟨.inr (by simp), rfl⟩
      · rintro ⟨h1 | ⟨h1, _⟩, h2⟩
        · obtain ⟨g, h3, h4⟩ := M.all_ _ h1
          exact absurd (by rw [h4, h2]) (hg g h3)
        · exact h1
  · rcases List.mem_append.mp hp with hp | hp
    · obtain ⟨g, h, e⟩ := M.all_ p hp
      exact ⟨g, List.mem_append_left _ h, e⟩
    · rw [List.mem_singleton.mp hp]
      exact ⟨_, List.mem_append_right _ (List.mem_singleton.mpr rfl), rfl⟩
  · have := M.len
    simp
    omega
  · rcases List.mem_append.mp hg with h | h
    · have := M.few g h
      simp
      omega
    · rw [List.mem_singleton.mp h]
      simp
/-- the find in the groups -/
theorem g_find {gs : List Grp} {k : Nat × List Int} : (∃ g ∈ gs, g.1 = k ∧ (gs.find? fun g => decide (g.1 = k)) = some g) ∨ ((∀ g ∈ gs, g.1 ≠ k) ∧ (gs.find? fun g => decide (g.1 = k)) = none) := by
  cases e : gs.find? fun g => decide (g.1 = k) with
  | some g => exact .inl ⟨g, List.mem_of_find?_eq_some e, by simpa using List.find?_some e, rfl⟩
  | none => exact .inr ⟨fun g hg => by simpa using List.find?_eq_none.mp e g hg, rfl⟩
/-- one row, one place: setdefault(..).append(row) -/
theorem add_ok {lo n : Nat} {gs : List Grp} {ps : List (List Int × Nat)} {r : List Int} {i : Nat} {h : Hs} {Q : D → Hs → Prop} (hlo : lo ≤ h.length) (hl : ps.length ≤ 1000) (H : GH lo n gs h) (M : GM ps gs)
    (q : ∀ l gs' h' xs, cell h' l = some (.lst xs) → xs.length ≤ 1000 → GH lo n gs' (h'.set l (.lst (xs ++ [tupI r]))) → GM (ps ++ [(r, i)]) gs' → (∀ m, m < lo → m ≠ n → cell (h'.set l (.lst (xs ++ [tupI r]))) m = cell h m) → h.length ≤ h'.length → Q (.loc l) h') :
    Wp (setdefD (.loc n) [tupK (i, rest r i), .loc h.length] (h ++ [O.lst []])) Q := by
  have D1 : DAt (h ++ [O.lst []]) n (gD gs) := H.dict.gr (Gr.push (S := [])) (by simp)
  have nlt := H.dict.lt
  refine wp_setdef_at (key_k _) D1 (by have := M.len; rw [gD_len]; omega) (fun v hv => ?_) fun hv => ?_
  · rw [gD_find] at hv
    rcases g_find (gs := gs) (k := (i, rest r i)) with ⟨g, hg, e1, e2⟩ | ⟨_, e2⟩
    · rw [e2] at hv
      cases hv
      have hc := H.cells g hg
      have hlow := H.low g hg
      have hc1 : cell (h ++ [O.lst []]) g.2.1 = some (.lst (g.2.2.map tupI)) := by rw [cell_push_lt (cell_lt hc)]; exact hc
      have gl : g.2.2.length ≤ 1000 := by have := M.few g hg; omega
      refine q g.2.1 (addG gs (i, rest r i) r) _ (g.2.2.map tupI) hc1 (by simpa using gl) ⟨?_, ?_, ?_, ?_⟩ (M.add ⟨g, hg, e1⟩) ?_ (by simp)
      · rw [gD_add]
        refine D1.gr (Gr.set (S := [g.2.1]) (by simp)) ?_
        simp
        exact fun e => hlow.2 e.symm
      · intro a ha
        obtain ⟨b, hb, rfl⟩ := mem_addG.mp ha
        rw [add_same.2]
        by_cases c : b.1 = (i, rest r i)
        · have : b = g := H.inj b hb g hg (.inl (by rw [c, e1]))
          subst this
          rw [cell_set_self (cell_lt hc1)]
          simp [c]
        · have ne : g.2.1 ≠ b.2.1 := fun e => c (by rw [← H.inj g hg b hb (.inr e)]; exact e1)
          rw [cell_set_ne ne, cell_push_lt (cell_lt (H.cells b hb)), H.cells b hb]
          simp [c]
      · intro a ha
        obtain ⟨b, hb, rfl⟩ := mem_addG.mp ha
        rw [add_same.2]
        exact H.low b hb
      · intro a ha b hb e
        obtain ⟨a', ha', rfl⟩ := mem_addG.mp ha
        obtain ⟨b', hb', rfl⟩ := mem_addG.mp hb
        rw [add_same.1, add_same.2, add_same.1, add_same.2] at e
        rw [H.inj a' ha' b' hb' e]
      · intro m hm hn
        rw [cell_set_ne (by omega), cell_push_lt (by omega)]
    · rw [e2] at hv; cases hv
  · rw [gD_find] at hv
    rcases g_find (gs := gs) (k := (i, rest r i)) with ⟨g, hg, e1, e2⟩ | ⟨e1, e2⟩
    · rw [e2] at hv; cases hv
    have c0 : cell ((h ++ [O.lst []]).set n (O.dcn (gD gs ++ [(tupK (i, rest r i), D.loc h.length)]))) h.length = some (.lst []) := by
      rw [cell_set_ne (by omega), cell_push]
    have l0 : h.length < ((h ++ [O.lst []]).set n (O.dcn (gD gs ++ [(tupK (i, rest r i), D.loc h.length)]))).length := by simp
    refine q h.length (gs ++ [((i, rest r i), h.length, [r])]) _ [] c0 (by simp) ⟨?_, ?_, ?_, ?_⟩ (M.new e1) ?_ (by simp)
    · refine .inl ?_
      rw [cell_set_ne (by omega), cell_set_self (by simp; omega)]
      simp [gD]
    · intro a ha
      rcases List.mem_append.mp ha with ha | ha
      · have := cell_lt (H.cells a ha)
        rw [cell_set_ne (by omega), cell_set_ne (fun e => (H.low a ha).2 e.symm), cell_push_lt this]
        exact H.cells a ha
      · rw [List.mem_singleton.mp ha]
        rw [cell_set_self l0]
        rfl
    · intro a ha
      rcases List.mem_append.mp ha with ha | ha
      · exact H.low a ha
      · rw [List.mem_singleton.mp ha]
        exact ⟨hlo, by simp; omega⟩
    · intro a ha b hb e
      rcases List.mem_append.mp ha with ha | ha <;> rcases List.mem_append.mp hb with hb | hb
      · exact H.inj a ha b hb e
      · rw [List.mem_singleton.mp hb] at e
        rcases e with e | e
        · exact absurd e (e1 a ha)
        · have := cell_lt (H.cells a ha)
          simp at e
          omega
      · rw [List.mem_singleton.mp ha] at e
        rcases e with e | e
        · exact absurd e.symm (e1 b hb)
        · have := cell_lt (H.cells b hb)
          simp at e
          omega
      · rw [List.mem_singleton.mp ha, List.mem_singleton.mp hb]
    · intro m hm hn
      rw [cell_set_ne (by omega), cell_set_ne (Ne.symm hn), cell_push_lt (by omega)]
end DL.Row
set_option Elab.async false
set_option linter.all false
set_option maxRecDepth 100000
set_option maxHeartbeats 4000000
namespace DL.Row
open PySem PySem.Spec PyProof.Rows L2 DL

section
variable {hs : Hs} {Q : Except Ex D → Hs → Prop}
theorem pureN {α : Type} {a : α} {Q : Except Ex α → Hs → Prop} : Wp (M.pure a hs) Q = Q (.ok a) hs := wp_of rfl
theorem newLN {xs : List D} {Q : D → Hs → Prop} : Wp (newL xs hs) Q = Q (.loc hs.length) (hs ++ [.lst xs]) := wp_of rfl
theorem augA {e : Ev} {n : Nat} {i j : Int} {R : Fl → Hs → Prop} : Wp (augK .Add n (.int i) (.int j) e hs) R = R (.nx (e.set n (some (.int (i + j))))) hs := wp_of rfl
/-! ## the groups by rests -/
def pr1 (r : List Int) (j : Nat) : List (List Int × Nat) := (List.range j).map fun i => (r, i)
def prs (rs : List (List Int)) : List (List Int × Nat) := rs.flatMap fun s => pr1 s s.length
theorem mem_pr1 {r s : List Int} {i j : Nat} : (s, i) ∈ pr1 r j ↔ s = r ∧ i < j := by
  unfold pr1
  simp only [List.mem_map, List.mem_range, Prod.mk.injEq]
  exact ⟨fun ⟨a, h, e1, e2⟩ => ⟨e1.symm, by omega⟩, fun ⟨e1, h⟩ => ⟨i, h, e1.symm, rfl⟩⟩
theorem mem_prs {rs : List (List Int)} {s : List Int} {i : Nat} : (s, i) ∈ prs rs ↔ s ∈ rs ∧ i < s.length := by
  unfold prs
  simp only [List.mem_flatMap, mem_pr1]
  exact ⟨fun ⟨a, h, e1, e2⟩ => by subst e1; exact ⟨h, e2⟩, fun ⟨h, e⟩ => ⟨s, h, rfl, e⟩⟩
theorem pr1_len {r : List Int} {j : Nat} : (pr1 r j).length = j := by simp [pr1]
theorem pr1_succ {r : List Int} {j : Nat} : pr1 r (j + 1) = pr1 r j ++ [(r, j)] := by simp [pr1, List.range_succ]
theorem prs_take {rs : List (List Int)} {r : List Int} {i : Nat} (h : rs[i]? = some r) : prs (rs.take (i + 1)) = prs (rs.take i) ++ pr1 r r.length := by
  rw [List.take_succ, h]
  simp [prs]
theorem prs_len {rs : List (List Int)} (h : ∀ r ∈ rs, r.length ≤ 5) : (prs rs).length ≤ 5 * rs.length := by
  induction rs with
  | nil => simp [prs]
  | cons r rs ih =>
    have := ih fun s hs => h s (by simp [hs])
    have h5 := h r (by simp)
    unfold prs at this ⊢
    simp [pr1] at this ⊢
    omega
theorem rows_at {rs : List (List Int)} {i : Nat} {d : D} (h : (rs.map tupI)[i]? = some d) : ∃ r, rs[i]? = some r ∧ d = tupI r := by
  rw [List.getElem?_map] at h
  obtain ⟨r, h1, h2⟩ := Option.map_eq_some_iff.mp h
  exact ⟨r, h1, h2.symm⟩
theorem rests_turn {many lo n i : Nat} {rs : List (List Int)} {r : List Int} {x3 : Option D} {gs : List Grp} {h0 h : Hs} (L : Lot many rs) (hf : rs.length ≤ 100) (hr : rs[i]? = some r) (H : GH lo n gs h) (Mm : GM (prs (rs.take i)) gs) (G : Gr [] h0 h) (hlo : lo = h0.length) (hn : n = lo) :
    Wp (forS (fun _ => True) (bodyK (.one 3) (seqS (dropS (methM "list" appendD (methM "dict" setdefD (varD 1) (consM (callF 2 r_raw_rest (consM (varD 2) (consM (varD 3) (fun _ => M.pure [])))) (consM (lstM (fun _ => M.pure [])) (fun _ => M.pure [])))) (consM (varD 2) (fun _ => M.pure []))))
  nextS)) (intL 0 r.length) [some (.tup (rs.map tupI)), some (.loc n), some (tupI r), x3] h) fun r' h' => ∃ x3 gs, r' = .nx [some (.tup (rs.map tupI)), some (.loc n), some (tupI r), x3] ∧ GH lo n gs h' ∧ GM (prs (rs.take (i + 1))) gs ∧ Gr [] h0 h' := by
  have hm := List.mem_of_getElem? hr
  have lr := L.len r hm
  have := L.hi
  have il : i < rs.length := (List.getElem?_eq_some_iff.mp hr).1
  have l5 : (prs (rs.take i)).length ≤ 500 := by
    have := prs_len (rs := rs.take i) fun s hs => by have := L.len s (List.mem_of_mem_take hs); omega
    simp at this
    omega
  refine wp_for (fun j e h => ∃ x3 gs, e = [some (.tup (rs.map tupI)), some (.loc n), some (tupI r), x3] ∧ GH lo n gs h ∧ GM (prs (rs.take i) ++ pr1 r j) gs ∧ Gr [] h0 h) ⟨_, gs, rfl, H, by simpa [pr1] using Mm, G⟩ ?_ ?_
  · rintro j d e h1 hj ⟨x3, gs, rfl, H, M, G⟩
    obtain ⟨hj, rfl⟩ := intL_at hj
    refine ⟨trivial, ?_⟩
    simp
    rw [wp_chk_at H.dict]
    simp
    rw [raw_rest_ok (by omega)]
    simp
    have := G.le
    refine add_ok (ps := prs (rs.take i) ++ pr1 r j) (by omega) (by rw [List.length_append, pr1_len]; omega) H M fun l gs' h' xs hc hx H' M' low le => ?_
    simp [hc, hx]
    refine ⟨gs', H', ?_, ⟨by simp; omega, fun m hm _ => ?_⟩⟩
    · rw [pr1_succ, ← List.append_assoc]
      exact M'
    · rw [low m (by omega) (by omega)]
      exact G.at_ m hm (by simp)
  · rintro e h1 ⟨x3, gs, rfl, H, M, G⟩
    refine ⟨trivial, x3, gs, rfl, H, ?_, G⟩
    rw [prs_take hr]
    simpa [intL_len] using M
def RI (rs : List (List Int)) (n : Nat) (h0 : Hs) (i : Nat) (e : Ev) (h : Hs) : Prop := ∃ x2 x3 gs, e = [some (.tup (rs.map tupI)), some (.loc n), x2, x3] ∧ GH n n gs h ∧ GM (prs (rs.take i)) gs ∧ Gr [] h0 h
theorem rests_loop {many n : Nat} {rs : List (List Int)} {h0 hs : Hs} {R : Fl → Hs → Prop} {x2 x3 : Option D} (L : Lot many rs) (hf : rs.length ≤ 100) (hn : n = h0.length) (H0 : GH n n [] hs) (G0 : Gr [] h0 hs) (q : ∀ x2 x3 gs h, GH n n gs h → GM (prs rs) gs → Gr [] h0 h → R (.nx [some (.tup (rs.map tupI)), some (.loc n), x2, x3]) h) :
    Wp (forS (fun _ => True) (bodyK (.one 2) (seqS (loopS (.one 3) (rngM 1 (consM (callM lenD (consM (varD 2) (fun _ => M.pure []))) (fun _ => M.pure [])))
  (seqS (dropS (methM "list" appendD (methM "dict" setdefD (varD 1) (consM (callF 2 r_raw_rest (consM (varD 2) (consM (varD 3) (fun _ => M.pure [])))) (consM (lstM (fun _ => M.pure [])) (fun _ => M.pure [])))) (consM (varD 2) (fun _ => M.pure []))))
  nextS))
  nextS)) (rs.map tupI) [some (.tup (rs.map tupI)), some (.loc n), x2, x3] hs) R := by
  refine wp_for (RI rs n h0) ⟨_, _, [], rfl, H0, ⟨by simp, by simp [prs], by simp, by simp⟩, G0⟩ ?_ ?_
  · rintro i d e h hi ⟨x2, x3, gs, rfl, H, M, G⟩
    obtain ⟨r, hr, rfl⟩ := rows_at hi
    have lr := L.len r (List.mem_of_getElem? hr)
    have := L.hi
    refine ⟨trivial, ?_⟩
    simp only [bodyK_one, wp_seq]
    simp
    rw [tupI_eq]
    simp
    rw [← tupI_eq]
    refine ⟨by omega, ?_⟩
    refine (rests_turn L hf hr H M G hn rfl).mono ?_
    rintro _ h' ⟨x3, gs, rfl, H, M, G⟩
    exact ⟨_, x3, gs, rfl, H, M, G⟩
  · rintro e h ⟨x2, x3, gs, rfl, H, M, G⟩
    rw [List.length_map, List.take_length] at M
    exact ⟨trivial, q _ _ gs h H M G⟩
theorem rests_ok {many : Nat} {rs : List (List Int)} (L : Lot many rs) (hf : rs.length ≤ 100) (q : ∀ n gs h, hs.length ≤ n → GH hs.length n gs h → GM (prs rs) gs → Gr [] hs h → Q (.ok (.loc n)) h) : Wp (r_rows_by_rests [tupR rs] hs) Q := by
  unfold r_rows_by_rests b_rows_by_rests
  rw [wp_run]
  simp only [wp_seq]
  simp [tupR]
  have H0 : GH hs.length hs.length [] (hs ++ [.dct []]) := ⟨.inr ⟨rfl, cell_push⟩, by simp, by simp, by simp⟩
  refine rests_loop L hf rfl H0 .push fun x2 x3 gs h H M G => ?_
  simp
  exact q _ gs h (Nat.le_refl _) H M G
end
end DL.Row
set_option Elab.async false
set_option linter.all false
set_option maxRecDepth 100000
set_option maxHeartbeats 4000000
namespace DL.Row
open PySem PySem.Spec PyProof.Rows L2 DL

/-! ## how far: what a search by breadth tells -/
structure Far (rs : List (List Int)) (o : List Int) (F : List Int → Option Nat) : Prop where
  inl : ∀ r n, F r = some n → r ∈ rs
  base : F o = some 0
  par : ∀ r n, F r = some n → (r = o ∧ n = 0) ∨ ∃ p m, F p = some m ∧ n = m + 1 ∧ nr p r
  step : ∀ r n s, F r = some n → s ∈ rs → nr r s → ∃ m, F s = some m ∧ m ≤ n + 1
inductive Wlk (rs : List (List Int)) : List Int → List Int → Nat → Prop
  | nil {a : List Int} (h : a ∈ rs) : Wlk rs a a 0
  | snoc {a b c : List Int} {n : Nat} (w : Wlk rs a b n) (hb : b ∈ rs) (hc : c ∈ rs) (h : nr b c) : Wlk rs a c (n + 1)
theorem Wlk.cons {rs : List (List Int)} {a b z : List Int} {n : Nat} (w : Wlk rs a b n) (hz : z ∈ rs) (h : nr z a) : Wlk rs z b (n + 1) := by
  induction w with
  | nil ha => exact .snoc (.nil hz) hz ha h
  | snoc w hb hc hn ih => exact .snoc ih hb hc hn
theorem Wlk.symm {rs : List (List Int)} {many : Nat} (L : ∀ r ∈ rs, r.length = many) {a b : List Int} {n : Nat} (w : Wlk rs a b n) : Wlk rs b a n := by
  induction w with
  | nil ha => exact .nil ha
  | snoc w hb hc hn ih => exact ih.cons hc (hn.symm (by rw [L _ hb, L _ hc]))
theorem Far.walk {rs : List (List Int)} {o : List Int} {F : List Int → Option Nat} (h : Far rs o F) : ∀ (n : Nat) (r : List Int), F r = some n → Wlk rs o r n
  | n, r, e => by
    rcases h.par r n e with ⟨rfl, rfl⟩ | ⟨p, m, e1, rfl, e2⟩
    · exact .nil (h.inl _ _ e)
    · exact .snoc (h.walk m p e1) (h.inl _ _ e1) (h.inl _ _ e) e2
theorem Far.of_walk {rs : List (List Int)} {o a b : List Int} {F : List Int → Option Nat} (h : Far rs o F) {n m : Nat} (w : Wlk rs a b n) (e : F a = some m) : ∃ k, F b = some k ∧ k ≤ m + n := by
  induction w with
  | nil ha => exact ⟨m, e, by omega⟩
  | snoc w hb hc hn ih =>
    obtain ⟨k, e1, h1⟩ := ih
    obtain ⟨k2, e2, h2⟩ := h.step _ _ _ e1 hc hn
    exact ⟨k2, e2, by omega⟩
theorem far_le {rs : List (List Int)} {o : List Int} {F G : List Int → Option Nat} (f : Far rs o F) (g : Far rs o G) {r : List Int} {n : Nat} (e : F r = some n) : ∃ k, G r = some k ∧ k ≤ n := by
  obtain ⟨k, e1, h1⟩ := g.of_walk (f.walk n r e) g.base
  exact ⟨k, e1, by omega⟩
theorem far_one {rs : List (List Int)} {o : List Int} {F G : List Int → Option Nat} (f : Far rs o F) (g : Far rs o G) : F = G := by
  funext r
  cases e : F r with
  | some n =>
    obtain ⟨k, e1, h1⟩ := far_le f g e
    obtain ⟨j, e2, h2⟩ := far_le g f e1
    rw [e] at e2
    cases e2
    rw [e1]
    congr 1
    omega
  | none =>
    cases e1 : G r with
    | none => rfl
    | some k =>
      obtain ⟨j, e2, h2⟩ := far_le g f e1
      rw [e] at e2
      cases e2
theorem far_back {rs : List (List Int)} {many : Nat} (L : ∀ r ∈ rs, r.length = many) {o p : List Int} {F G : List Int → Option Nat} (f : Far rs o F) (g : Far rs p G) : F p = G o := by
  have key : ∀ {o p F G}, Far rs o F → Far rs p G → ∀ n, F p = some n → ∃ k, G o = some k ∧ k ≤ n := fun {o p F G} f g n e => by
    obtain ⟨k, e1, h1⟩ := g.of_walk ((f.walk n p e).symm L) g.base
    exact ⟨k, e1, by omega⟩
  cases e : F p with
  | some n =>
    obtain ⟨k, e1, h1⟩ := key f g n e
    obtain ⟨j, e2, h2⟩ := key g f k e1
    rw [e] at e2
    cases e2
    rw [e1]
    congr 1
    omega
  | none =>
    cases e1 : G o with
    | none => rfl
    | some k =>
      obtain ⟨j, e2, h2⟩ := key g f k e1
      rw [e] at e2
      cases e2
theorem Far.zero {rs : List (List Int)} {o r : List Int} {F : List Int → Option Nat} (f : Far rs o F) (e : F r = some 0) : r = o := by
  rcases f.par r 0 e with ⟨h, _⟩ | ⟨p, m, _, h, _⟩
  · exact h
  · omega
/-! ## the steps, as pairs -/
abbrev Stp := List Int × Nat
def fD (fs : List Stp) : List (D × D) := fs.map fun p => (tupI p.1, D.int (p.2 : Nat))
def look (fs : List Stp) (r : List Int) : Option Nat := (fs.find? fun p => decide (p.1 = r)).map (·.2)
theorem fD_find (r : List Int) (fs : List Stp) : findN (fD fs) (kI r) = (look fs r).map fun n => .int (n : Nat) := by
  unfold fD look
  rw [find_map (f := fun p : Stp => p.1) (g := fun p => D.int (p.2 : Nat)) nkD_row kI_inj r fs, Option.map_map]
  rfl
theorem look_some {fs : List Stp} (hn : (fs.map (·.1)).Nodup) {r : List Int} {n : Nat} : look fs r = some n ↔ (r, n) ∈ fs := by
  unfold look
  constructor
  · intro h
    obtain ⟨p, h1, h2⟩ := Option.map_eq_some_iff.mp h
    have h3 := List.find?_some h1
    have h4 := List.mem_of_find?_eq_some h1
    simp at h3
    subst h3 h2
    exact h4
  · intro h
    induction fs with
    | nil => cases h
    | cons p fs ih =>
      rw [List.map_cons, List.nodup_cons] at hn
      rw [List.find?_cons]
      rcases List.mem_cons.mp h with rfl | h
      · simp
      · have : p.1 ≠ r := fun e => hn.1 (by rw [e]; exact List.mem_map.mpr ⟨_, h, rfl⟩)
        simp only [this, decide_false]
        exact ih hn.2 h
theorem look_none {fs : List Stp} {r : List Int} (h : look fs r = none) : ∀ p ∈ fs, p.1 ≠ r := by
  unfold look at h
  have := List.find?_eq_none.mp (Option.map_eq_none_iff.mp h)
  intro p hp
  simpa using this p hp
/-- what holds of groups and steps while a row at distance d is worked; X: rows still to come -/
structure BI (Z : List Int → Prop) (gs0 : List Grp) (many : Nat) (rs : List (List Int)) (o : List Int) (gs : List Grp) (fs : List Stp) (d : Nat) (X : List Int → Prop) : Prop where
  nodup : (fs.map (·.1)).Nodup
  inl : ∀ p ∈ fs, p.1 ∈ rs
  up : fs.Pairwise fun a b => a.2 ≤ b.2
  base : (o, 0) ∈ fs
  par : ∀ p ∈ fs, p = (o, 0) ∨ ∃ q ∈ fs, p.2 = q.2 + 1 ∧ nr q.1 p.1
  pop : ∀ s ∈ rs, Z s → ∀ i, i < many → (∃ g ∈ gs, g.1 = (i, rest s i)) ∨ (∃ p ∈ fs, p.1 = s ∧ p.2 ≤ d + 1) ∨ X s
  bound : ∀ p ∈ fs, p.2 ≤ d + 1
  zin : ∀ p ∈ fs, Z p.1
  keep : ∀ g ∈ gs0, g ∈ gs ∨ ∃ p ∈ fs, rest p.1 g.1.1 = g.1.2
/-- the first rows are done -/
def Done (many : Nat) (rs : List (List Int)) (fs : List Stp) (at_ : Nat) : Prop := ∀ j, j < at_ → ∀ p, fs[j]? = some p → ∀ s ∈ rs, ∀ i, i < many → rest s i = rest p.1 i → ∃ q ∈ fs, q.1 = s ∧ q.2 ≤ p.2 + 1
theorem Done.app {many : Nat} {rs : List (List Int)} {fs ts : List Stp} {at_ : Nat} (h : Done many rs fs at_) (hl : at_ ≤ fs.length) : Done many rs (fs ++ ts) at_ := by
  intro j hj p hp s hs i hi e
  rw [List.getElem?_append_left (by omega)] at hp
  obtain ⟨q, h1, h2⟩ := h j hj p hp s hs i hi e
  exact ⟨q, List.mem_append_left _ h1, h2⟩
theorem BI.snoc {Z : List Int → Prop} {gs0 : List Grp} {many : Nat} {rs : List (List Int)} {o r s : List Int} {gs : List Grp} {fs : List Stp} {d : Nat} {X Y : List Int → Prop} (B : BI Z gs0 many rs o gs fs d X) (hr : (r, d) ∈ fs) (hs : s ∈ rs) (hz : Z s) (hn : ∀ p ∈ fs, p.1 ≠ s) (h : nr r s) (hX : ∀ t, X t → t = s ∨ Y t) : BI Z gs0 many rs o gs (fs ++ [(s, d + 1)]) d Y := by
  have L : ∀ {p}, p ∈ fs ++ [(s, d + 1)] → p ∈ fs ∨ p = (s, d + 1) := fun hp => by
    rcases List.mem_append.mp hp with h | h
    · exact .inl h
    · exact .inr (List.mem_singleton.mp h)
  refine ⟨?_, fun p hp => ?_, ?_, List.mem_append_left _ B.base, fun p hp => ?_, fun t ht tz i hi => ?_, fun p hp => ?_, fun p hp => ?_, fun g hg => ?_⟩
  · rw [List.map_append, List.nodup_append]
    refine ⟨B.nodup, by simp, fun a ha b hb e => ?_⟩
    obtain ⟨p, hp, rfl⟩ := List.mem_map.mp ha
    simp at hb
    exact hn p hp (by rw [e, hb])
  · rcases L hp with h | rfl
    · exact B.inl p h
    · exact hs
  · refine List.pairwise_append.mpr ⟨B.up, by simp, fun a ha b hb => ?_⟩
    rw [List.mem_singleton.mp hb]
    exact B.bound a ha
  · rcases L hp with h | rfl
    · rcases B.par p h with e | ⟨q, h1, h2⟩
      · exact .inl e
      · exact .inr ⟨q, List.mem_append_left _ h1, h2⟩
    · exact .inr ⟨(r, d), List.mem_append_left _ hr, rfl, h⟩
  · rcases B.pop t ht tz i hi with h | ⟨p, h1, h2⟩ | h
    · exact .inl h
    · exact .inr (.inl ⟨p, List.mem_append_left _ h1, h2⟩)
    · rcases hX t h with rfl | h
      · exact .inr (.inl ⟨(t, d + 1), by simp, rfl, Nat.le_refl _⟩)
      · exact .inr (.inr h)
  · rcases L hp with h | rfl
    · exact B.bound p h
    · exact Nat.le_refl _
  · rcases L hp with h | rfl
    · exact B.zin p h
    · exact hz
  · rcases B.keep g hg with h | ⟨p, h1, h2⟩
    · exact .inl h
    · exact .inr ⟨p, List.mem_append_left _ h1, h2⟩
theorem BI.weak {Z : List Int → Prop} {gs0 : List Grp} {many : Nat} {rs : List (List Int)} {o : List Int} {gs : List Grp} {fs : List Stp} {d : Nat} {X Y : List Int → Prop} (B : BI Z gs0 many rs o gs fs d X) (hX : ∀ t, X t → (∃ p ∈ fs, p.1 = t) ∨ Y t) : BI Z gs0 many rs o gs fs d Y :=
  ⟨B.nodup, B.inl, B.up, B.base, B.par, fun s hs sz i hi => by
    rcases B.pop s hs sz i hi with h | h | h
    · exact .inl h
    · exact .inr (.inl h)
    · rcases hX s h with ⟨p, h1, h2⟩ | h
      · exact .inr (.inl ⟨p, h1, h2, B.bound p h1⟩)
      · exact .inr (.inr h), B.bound, B.zin, B.keep⟩
theorem nodup_sub {α : Type} [DecidableEq α] : ∀ {a b : List α}, a.Nodup → (∀ x ∈ a, x ∈ b) → a.length ≤ b.length
  | [], _, _, _ => by simp
  | x :: a, b, h, hs => by
    rw [List.nodup_cons] at h
    have hx := hs x (by simp)
    have q := nodup_sub (a := a) (b := b.erase x) h.2 fun y hy => by
      have ne : y ≠ x := fun e => h.1 (by rw [← e]; exact hy)
      exact (List.mem_erase_of_ne ne).mpr (hs y (by simp [hy]))
    rw [List.length_erase_of_mem hx] at q
    have : 0 < b.length := List.length_pos_of_mem hx
    simp
    omega
theorem BI.len {Z : List Int → Prop} {gs0 : List Grp} {many : Nat} {rs : List (List Int)} {o : List Int} {gs : List Grp} {fs : List Stp} {d : Nat} {X : List Int → Prop} (B : BI Z gs0 many rs o gs fs d X) : fs.length ≤ rs.length := by
  have := nodup_sub (b := rs) B.nodup fun x hx => by
    obtain ⟨p, hp, rfl⟩ := List.mem_map.mp hx
    exact B.inl p hp
  simpa using this
/-- at the end: how far -/
theorem BI.far {Z : List Int → Prop} {gs0 : List Grp} {many : Nat} {rs : List (List Int)} {o : List Int} {gs : List Grp} {fs : List Stp} {d : Nat} {X : List Int → Prop} (B : BI Z gs0 many rs o gs fs d X) (hL : ∀ r ∈ rs, r.length = many) (D : Done many rs fs fs.length) : Far rs o (look fs) := by
  refine ⟨fun r n e => B.inl _ ((look_some B.nodup).mp e), (look_some B.nodup).mpr B.base, fun r n e => ?_, fun r n s e hs h => ?_⟩
  · rcases B.par _ ((look_some B.nodup).mp e) with e | ⟨q, h1, h2, h3⟩
    · cases e
      exact .inl ⟨rfl, rfl⟩
    · exact .inr ⟨q.1, q.2, (look_some B.nodup).mpr h1, h2, h3⟩
  · have hm := (look_some B.nodup).mp e
    obtain ⟨j, hj⟩ := List.mem_iff_getElem?.mp hm
    obtain ⟨_, i, hi, hr⟩ := h
    obtain ⟨q, h1, rfl, h3⟩ := D j (List.getElem?_eq_some_iff.mp hj).1 _ hj s hs i (by rw [hL r (B.inl _ hm)] at hi; exact hi) hr.symm
    exact ⟨q.2, (look_some B.nodup).mpr h1, h3⟩
end DL.Row
set_option Elab.async false
set_option linter.all false
set_option maxRecDepth 100000
set_option maxHeartbeats 4000000
namespace DL.Row
open PySem PySem.Spec PyProof.Rows L2 DL

/-! ## steps_from -/
structure BH (lo n m w : Nat) (gs : List Grp) (fs : List Stp) (h : Hs) : Prop where
  g : GH lo n gs h
  f : cell h m = some (.dcn (fD fs))
  wt : cell h w = some (.lst (fs.map fun p => tupI p.1))
  hi : ∀ g ∈ gs, g.2.1 < m
  nm : n < m
  mw : m < w
noncomputable abbrev tB7 : Ev → S := (seqS (ifS (asTest (op2 (cmpD .NotIn) (varD 7) (varD 2)))
  (seqS (setS (op2 (binD .Add) (op2 ixD (varD 2) (varD 5)) (fun _ => M.pure (.int 1))) (varD 2) (varD 7))
  (seqS (dropS (methM "list" appendD (varD 3) (consM (varD 7) (fun _ => M.pure []))))
  nextS))
  nextS)
  nextS)
noncomputable abbrev tB6 : Ev → S := (seqS (loopS (.one 7) (seqM (methM "dict" popKD (varD 0) (consM (callF 2 r_raw_rest (consM (varD 5) (consM (varD 6) (fun _ => M.pure [])))) (consM (lstM (fun _ => M.pure [])) (fun _ => M.pure [])))))
  tB7)
  nextS)
noncomputable abbrev tB5 : Ev → S := (seqS (asgS (.one 5) (op2 ixD (varD 3) (varD 4)))
  (seqS (augS .Add 4 (fun _ => M.pure (.int 1)))
  (seqS (loopS (.one 6) (rngM 1 (consM (callM lenD (consM (varD 5) (fun _ => M.pure []))) (fun _ => M.pure [])))
  tB6)
  nextS)))
section
variable {Z : List Int → Prop} {gz : List Grp} {many lo n m w : Nat} {rs : List (List Int)} {o r s : List Int} {gs : List Grp} {fs : List Stp} {d : Nat} {X Y : List Int → Prop} {h : Hs} {x1 x4 x6 x7 : Option D}
theorem fD_len : (fD fs).length = fs.length := List.length_map ..
theorem t7 {i : Nat} (H : BH lo n m w gs fs h) (B : BI Z gz many rs o gs fs d X) (hf : rs.length ≤ 100) (hr : (r, d) ∈ fs) (hs : s ∈ rs) (hz : Z s) (hi : i < r.length) (he : rest s i = rest r i) (hX : ∀ t, X t → t = s ∨ Y t) :
    Wp (tB7 [some (.loc n), x1, some (.loc m), some (.loc w), x4, some (tupI r), x6, some (tupI s)] h) fun r' h' => ∃ ts, r' = .nx [some (.loc n), x1, some (.loc m), some (.loc w), x4, some (tupI r), x6, some (tupI s)] ∧ BH lo n m w gs (fs ++ ts) h' ∧ BI Z gz many rs o gs (fs ++ ts) d Y ∧ (∃ p ∈ fs ++ ts, p.1 = s) ∧ Gr [m, w] h h' := by
  have fl := B.len
  have hD : DAt h m (fD fs) := .inl H.f
  have lk := (look_some B.nodup).mpr hr
  simp [-wp_cmpNotIn]
  rw [wp_notIn_at (key_row s) hD, fD_find]
  cases e : look fs s with
  | some k =>
    simp
    have hm := (look_some B.nodup).mp e
    refine ⟨[], by simpa using H, ?_, ⟨k, by simpa using hm⟩, .refl⟩
    rw [List.append_nil]
    refine B.weak fun t ht => ?_
    rcases hX t ht with rfl | h
    · exact .inl ⟨_, hm, rfl⟩
    · exact .inr h
  | none =>
    have hn := look_none e
    simp [-wp_cmpNotIn]
    refine wp_ix_at (key_row r) hD (by rw [fD_find, lk]; rfl) ?_
    simp
    refine wp_set_at (key_row s) hD (by rw [fD_len]; omega) ?_
    have ml := cell_lt H.f
    have wl := cell_lt H.wt
    have mw := H.mw
    have nm := H.nm
    have ne : m ≠ w := by omega
    have e2 : findN (fD fs) (kI s) = none := by rw [fD_find, e]; rfl
    simp [ne, H.wt]
    refine ⟨small1000 (by omega), [(s, d + 1)], ⟨?_, ?_, ?_, ?_, nm, mw⟩, ?_, ?_, ?_⟩
    · refine (H.g.gr (S := [m]) (.set (by simp)) ?_).gr (S := [w]) (.set (by simp)) ?_
      · simp
        exact ⟨by omega, fun k l z v hg e => by have := H.hi _ hg; simp at this; omega⟩
      · simp
        exact ⟨by omega, fun k l z v hg e => by have := H.hi _ hg; simp at this; omega⟩
    · rw [cell_set_ne (by omega), cell_set_self ml]
      unfold putN
      rw [e2]
      simp [fD]
    · rw [cell_set_self (by simpa using wl)]
      simp
    · exact H.hi
    · exact B.snoc hr hs hz hn ⟨fun q => hn _ hr q, i, hi, he.symm⟩ hX
    · exact ⟨d + 1, by simp⟩
    · exact (Gr.set (by simp)).trans (Gr.set (by simp))
theorem t7all {i l : Nat} {ms : List (List Int)} (H : BH lo n m w gs fs h) (B : BI Z gz many rs o gs fs d (· ∈ ms)) (hf : rs.length ≤ 100) (hr : (r, d) ∈ fs) (hi : i < r.length) (hms : ∀ s ∈ ms, (s ∈ rs ∧ Z s) ∧ rest s i = rest r i) (hc : cell h l = some (.lst (ms.map tupI))) (lm : l ≠ m) (lw : l ≠ w) :
    Wp (forS (fun h => cell h l = some (.lst (ms.map tupI))) (bodyK (.one 7) tB7) (ms.map tupI) [some (.loc n), x1, some (.loc m), some (.loc w), x4, some (tupI r), x6, x7] h) fun r' h' => ∃ x7 ts, r' = .nx [some (.loc n), x1, some (.loc m), some (.loc w), x4, some (tupI r), x6, x7] ∧ BH lo n m w gs (fs ++ ts) h' ∧ BI Z gz many rs o gs (fs ++ ts) d (fun _ => False) ∧ (∀ s ∈ ms, ∃ p ∈ fs ++ ts, p.1 = s) ∧ Gr [m, w] h h' := by
  refine wp_for (fun k e h' => ∃ x7 ts, e = [some (.loc n), x1, some (.loc m), some (.loc w), x4, some (tupI r), x6, x7] ∧ BH lo n m w gs (fs ++ ts) h' ∧ BI Z gz many rs o gs (fs ++ ts) d (· ∈ ms.drop k) ∧ (∀ s ∈ ms.take k, ∃ p ∈ fs ++ ts, p.1 = s) ∧ Gr [m, w] h h') ⟨_, [], rfl, by simpa using H, by simpa using B, by simp, .refl⟩ ?_ ?_
  · rintro k dd e h1 hk ⟨x7, ts, rfl, H1, B1, P, G⟩
    obtain ⟨s, hs, rfl⟩ := rows_at hk
    have hm := hms s (List.mem_of_getElem? hs)
    have kl := (List.getElem?_eq_some_iff.mp hs).1
    refine ⟨G.get hc (by simp [lm, lw]), ?_⟩
    rw [bodyK_one]
    refine (t7 (Y := (· ∈ ms.drop (k + 1))) H1 B1 hf (List.mem_append_left _ hr) hm.1.1 hm.1.2 hi hm.2 fun t ht => ?_).mono ?_
    · rw [List.drop_eq_getElem_cons kl] at ht
      rcases List.mem_cons.mp ht with h | h
      · left
        rw [h]
        exact Option.some.inj ((List.getElem?_eq_getElem kl).symm.trans hs)
      · exact .inr h
    · rintro _ h2 ⟨us, rfl, H2, B2, ⟨p, hp, e⟩, G2⟩
      refine ⟨_, ts ++ us, rfl, by rw [← List.append_assoc]; exact H2, by rw [← List.append_assoc]; exact B2, ?_, G.trans G2⟩
      rw [← List.append_assoc]
      intro t ht
      rw [List.take_succ, hs] at ht
      rcases List.mem_append.mp ht with ht | ht
      · obtain ⟨p, hp, e⟩ := P t ht
        exact ⟨p, List.mem_append_left _ hp, e⟩
      · simp at ht
        rw [ht]
        exact ⟨p, hp, e⟩
  · rintro e h1 ⟨x7, ts, rfl, H1, B1, P, G⟩
    refine ⟨G.get hc (by simp [lm, lw]), x7, ts, rfl, H1, ?_, ?_, G⟩
    · rw [List.length_map, List.drop_length] at B1
      exact B1.weak fun t ht => by cases ht
    · rw [List.length_map, List.take_length] at P
      exact P
/-- a place of a row is done -/
def Plc (rs : List (List Int)) (r : List Int) (fs : List Stp) (d i : Nat) : Prop := ∀ s ∈ rs, rest s i = rest r i → ∃ q ∈ fs, q.1 = s ∧ q.2 ≤ d + 1
def P6 (Z : List Int → Prop) (gz : List Grp) (lo n m w many : Nat) (rs : List (List Int)) (o r : List Int) (gs0 : List Grp) (fs : List Stp) (d i : Nat) (h : Hs) (x1 x4 : Option D) : Fl → Hs → Prop := fun r' h' => ∃ x7 gs' ts, r' = .nx [some (.loc n), x1, some (.loc m), some (.loc w), x4, some (tupI r), some (.int (i : Nat)), x7] ∧ (∀ g ∈ gs', g ∈ gs0) ∧ BH lo n m w gs' (fs ++ ts) h' ∧ BI Z gz many rs o gs' (fs ++ ts) d (fun _ => False) ∧ Plc rs r (fs ++ ts) d i ∧ Gr [n, m, w] h h'
theorem t6 {i : Nat} {gs0 : List Grp} (cl : ∀ a ∈ rs, Z a → ∀ b ∈ rs, ∀ i, i < many → rest b i = rest a i → Z b) (hsub : ∀ g ∈ gs, g ∈ gs0) (M0 : ∀ g ∈ gs0, ∀ s, s ∈ g.2.2 ↔ (s, g.1.1) ∈ prs rs ∧ rest s g.1.1 = g.1.2) (hL : ∀ s ∈ rs, s.length = many) (h5 : many ≤ 5) (H : BH lo n m w gs fs h) (B : BI Z gz many rs o gs fs d (fun _ => False)) (hf : rs.length ≤ 100) (hr : (r, d) ∈ fs) (hi : i < r.length) (wl : w < h.length) :
    Wp (tB6 [some (.loc n), x1, some (.loc m), some (.loc w), x4, some (tupI r), some (.int (i : Nat)), x7] h) (P6 Z gz lo n m w many rs o r gs0 fs d i h x1 x4) := by
  have rr := B.inl _ hr
  have lr := hL r rr
  have nm := H.nm
  have mw := H.mw
  simp
  rw [wp_chk_at H.g.dict]
  simp
  rw [raw_rest_ok (by omega)]
  simp
  have D1 : DAt (h ++ [.lst []]) n (gD gs) := H.g.dict.gr (Gr.push (S := [])) (by simp)
  refine wp_pop_at (key_k _) D1 (fun v hv => ?_) fun hv => ?_
  · rw [gD_find] at hv
    rcases g_find (gs := gs) (k := (i, rest r i)) with ⟨g, hg, e1, e2⟩ | ⟨_, e2⟩
    rotate_left
    · rw [e2] at hv; cases hv
    rw [e2] at hv
    cases hv
    have hc := H.g.cells g hg
    have glt := H.hi g hg
    have glow := H.g.low g hg
    rw [gD_drop]
    have hc1 : cell ((h ++ [O.lst []]).set n (O.dcn (gD (gs.filter fun g => decide (g.1 ≠ (i, rest r i)))))) g.2.1 = some (.lst (g.2.2.map tupI)) := by
      rw [cell_set_ne (Ne.symm glow.2), cell_push_lt (by omega)]
      exact hc
    show Wp (seqSrc (.loc g.2.1) _) _
    rw [wp_src_loc]
    refine ⟨_, hc1, ?_⟩
    simp only [onEx_ok]
    have Ga : Gr [n, m, w] h ((h ++ [O.lst []]).set n (O.dcn (gD (gs.filter fun g => decide (g.1 ≠ (i, rest r i)))))) := Gr.push.trans (Gr.set (by simp))
    have memg : ∀ s, s ∈ g.2.2 ↔ s ∈ rs ∧ i < s.length ∧ rest s i = rest r i := fun s => by
      rw [M0 g (hsub g hg), mem_prs, e1]
      simp [and_assoc]
    refine (t7all (Z := Z) (gz := gz) (many := many) (lo := lo) (o := o) (gs := gs.filter fun g => decide (g.1 ≠ (i, rest r i))) (fs := fs) (i := i) (l := g.2.1) ⟨⟨?_, ?_, ?_, ?_⟩, ?_, ?_, ?_, nm, mw⟩ ?_ hf hr hi (fun s hs => ⟨⟨((memg s).mp hs).1, cl r rr (B.zin _ hr) s ((memg s).mp hs).1 i (by omega) ((memg s).mp hs).2.2⟩, ((memg s).mp hs).2.2⟩) hc1 (by omega) (by omega)).mono ?_
    · exact .inl (cell_set_self (by simp; have := H.g.dict.lt; omega))
    · intro a ha
      have ha := (List.mem_filter.mp ha).1
      rw [cell_set_ne (Ne.symm (H.g.low a ha).2), cell_push_lt (cell_lt (H.g.cells a ha))]
      exact H.g.cells a ha
    · exact fun a ha => H.g.low a (List.mem_filter.mp ha).1
    · exact fun a ha b hb e => H.g.inj a (List.mem_filter.mp ha).1 b (List.mem_filter.mp hb).1 e
    · rw [cell_set_ne (by omega), cell_push_lt (by omega)]
      exact H.f
    · rw [cell_set_ne (by omega), cell_push_lt (by omega)]
      exact H.wt
    · exact fun a ha => H.hi a (List.mem_filter.mp ha).1
    · refine ⟨B.nodup, B.inl, B.up, B.base, B.par, fun s hs sz j hj => ?_, B.bound, B.zin, fun a ha => ?_⟩
      rotate_left
      · rcases B.keep a ha with h | h
        · by_cases c : a.1 = (i, rest r i)
          · exact .inr ⟨_, hr, by rw [c]⟩
          · exact .inl (List.mem_filter.mpr ⟨h, by simpa using c⟩)
        · exact .inr h
      rcases B.pop s hs sz j hj with ⟨a, ha, e⟩ | h | h
      · by_cases c : a.1 = (i, rest r i)
        · rw [c] at e
          obtain ⟨rfl, e⟩ := Prod.mk.inj e
          exact .inr (.inr ((memg s).mpr ⟨hs, by rw [hL s hs]; exact hj, e.symm⟩))
        · exact .inl ⟨a, List.mem_filter.mpr ⟨ha, by simpa using c⟩, e⟩
      · exact .inr (.inl h)
      · exact h.elim
    · rintro _ h2 ⟨y7, ts, rfl, H2, B2, P, G2⟩
      simp only [onNx_nx, wp_next]
      refine ⟨y7, _, ts, rfl, fun a ha => hsub a (List.mem_filter.mp ha).1, H2, B2, fun s hs e => ?_, Ga.trans (G2.mono (by simp))⟩
      obtain ⟨p, hp, e⟩ := P s ((memg s).mpr ⟨hs, by rw [hL s hs, ← lr]; exact hi, e⟩)
      exact ⟨p, hp, e, B2.bound p hp⟩
  · rw [gD_find] at hv
    rcases g_find (gs := gs) (k := (i, rest r i)) with ⟨g, hg, e1, e2⟩ | ⟨e1, e2⟩
    · rw [e2] at hv; cases hv
    have hc1 : cell (h ++ [O.lst []]) h.length = some (.lst (([] : List (List Int)).map tupI)) := cell_push
    show Wp (seqSrc (.loc h.length) _) _
    rw [wp_src_loc]
    refine ⟨_, hc1, ?_⟩
    simp only [onEx_ok]
    have Ga : Gr [n, m, w] h (h ++ [O.lst []]) := .push
    refine (t7all (Z := Z) (gz := gz) (many := many) (lo := lo) (o := o) (gs := gs) (fs := fs) (i := i) (l := h.length) ⟨H.g.gr (Gr.push (S := [])) (by simp), ?_, ?_, H.hi, nm, mw⟩ (B.weak fun t ht => ht.elim) hf hr hi (fun s hs => by cases hs) hc1 (by omega) (by omega)).mono ?_
    · rw [cell_push_lt (by omega)]; exact H.f
    · rw [cell_push_lt (by omega)]; exact H.wt
    · rintro _ h2 ⟨y7, ts, rfl, H2, B2, P, G2⟩
      simp only [onNx_nx, wp_next]
      refine ⟨y7, _, ts, rfl, hsub, H2, B2, fun s hs e => ?_, Ga.trans (G2.mono (by simp))⟩
      rcases B.pop s hs (cl r rr (B.zin _ hr) s hs i (by omega) e) i (by omega) with ⟨a, ha, e3⟩ | ⟨p, h1, h2⟩ | h
      · exact absurd (by rw [e3, e]) (e1 a ha)
      · exact ⟨p, List.mem_append_left _ h1, h2⟩
      · exact h.elim
end
end DL.Row
set_option Elab.async false
set_option linter.all false
set_option maxRecDepth 100000
set_option maxHeartbeats 4000000
namespace DL.Row
open PySem PySem.Spec PyProof.Rows L2 DL

section
variable {Z : List Int → Prop} {gz : List Grp} {many lo n m w : Nat} {rs : List (List Int)} {o r s : List Int} {gs gs0 : List Grp} {fs : List Stp} {d : Nat} {X Y : List Int → Prop} {h : Hs} {x1 x4 x6 x7 : Option D}
theorem BI.raise {d' : Nat} (B : BI Z gz many rs o gs fs d X) (hd : d ≤ d') : BI Z gz many rs o gs fs d' X :=
  ⟨B.nodup, B.inl, B.up, B.base, B.par, fun s hs sz i hi => by
    rcases B.pop s hs sz i hi with h | ⟨p, h1, h2, h3⟩ | h
    · exact .inl h
    · exact .inr (.inl ⟨p, h1, h2, by omega⟩)
    · exact .inr (.inr h), fun p hp => by have := B.bound p hp; omega, B.zin, B.keep⟩
theorem Plc.app {ts : List Stp} {i : Nat} (P : Plc rs r fs d i) : Plc rs r (fs ++ ts) d i := fun s hs e => by
  obtain ⟨q, h1, h2⟩ := P s hs e
  exact ⟨q, List.mem_append_left _ h1, h2⟩
def P5 (Z : List Int → Prop) (gz : List Grp) (lo n m w many : Nat) (rs : List (List Int)) (o r : List Int) (gs0 : List Grp) (fs : List Stp) (d : Nat) (h : Hs) (x1 x4 : Option D) (i : Nat) (e : Ev) (h' : Hs) : Prop := ∃ x6 x7 gs' ts, e = [some (.loc n), x1, some (.loc m), some (.loc w), x4, some (tupI r), x6, x7] ∧ (∀ g ∈ gs', g ∈ gs0) ∧ BH lo n m w gs' (fs ++ ts) h' ∧ BI Z gz many rs o gs' (fs ++ ts) d (fun _ => False) ∧ (∀ j, j < i → Plc rs r (fs ++ ts) d j) ∧ Gr [n, m, w] h h'
theorem t5 (cl : ∀ a ∈ rs, Z a → ∀ b ∈ rs, ∀ i, i < many → rest b i = rest a i → Z b) (hsub : ∀ g ∈ gs, g ∈ gs0) (M0 : ∀ g ∈ gs0, ∀ s, s ∈ g.2.2 ↔ (s, g.1.1) ∈ prs rs ∧ rest s g.1.1 = g.1.2) (hL : ∀ s ∈ rs, s.length = many) (h5 : many ≤ 5) (H : BH lo n m w gs fs h) (B : BI Z gz many rs o gs fs d (fun _ => False)) (hf : rs.length ≤ 100) (hr : (r, d) ∈ fs) :
    Wp (forS (fun _ => True) (bodyK (.one 6) tB6) (intL 0 r.length) [some (.loc n), x1, some (.loc m), some (.loc w), x4, some (tupI r), x6, x7] h) fun r' h' => ∃ e, r' = .nx e ∧ P5 Z gz lo n m w many rs o r gs0 fs d h x1 x4 many e h' := by
  have lr := hL r (B.inl _ hr)
  refine wp_for (P5 Z gz lo n m w many rs o r gs0 fs d h x1 x4) ⟨_, _, gs, [], rfl, hsub, by simpa using H, by simpa using B, fun j hj => by omega, .refl⟩ ?_ ?_
  · rintro i dd e h1 hi ⟨x6, x7, gs1, ts, rfl, sub, H1, B1, P, G⟩
    obtain ⟨hil, rfl⟩ := intL_at hi
    refine ⟨trivial, ?_⟩
    rw [bodyK_one, Int.zero_add]
    refine (t6 cl sub M0 hL h5 H1 B1 hf (List.mem_append_left _ hr) hil (cell_lt H1.wt)).mono ?_
    rintro _ h2 ⟨x7, gs2, us, rfl, sub2, H2, B2, P2, G2⟩
    rw [List.append_assoc] at H2 B2 P2
    refine ⟨_, _, gs2, ts ++ us, rfl, sub2, H2, B2, fun j hj => ?_, G.trans G2⟩
    by_cases c : j = i
    · subst c; exact P2
    · rw [← List.append_assoc]
      exact (P j (by omega)).app
  · rintro e h1 ⟨x6, x7, gs1, ts, rfl, sub, H1, B1, P, G⟩
    rw [intL_len, lr] at P
    exact ⟨trivial, _, rfl, x6, x7, gs1, ts, rfl, sub, H1, B1, P, G⟩
/-- the while-loop's invariant -/
def P4 (Z : List Int → Prop) (gz : List Grp) (lo n m w many : Nat) (rs : List (List Int)) (o : List Int) (gs0 : List Grp) (h0 : Hs) (x1 : Option D) (k : Nat) (e : Ev) (h : Hs) : Prop := ∃ (at_ : Nat) (x5 x6 x7 : Option D) (gs : List Grp) (fs : List Stp) (d : Nat), e = [some (.loc n), x1, some (.loc m), some (.loc w), some (.int (at_ : Nat)), x5, x6, x7] ∧ k + at_ = rs.length ∧ at_ ≤ fs.length ∧ (∀ g ∈ gs, g ∈ gs0) ∧ BH lo n m w gs fs h ∧ BI Z gz many rs o gs fs d (fun _ => False) ∧ (∀ p, fs[at_]? = some p → d ≤ p.2) ∧ Done many rs fs at_ ∧ Gr [n, m, w] h0 h
theorem t4 (cl : ∀ a ∈ rs, Z a → ∀ b ∈ rs, ∀ i, i < many → rest b i = rest a i → Z b) {h0 : Hs} {R : Fl → Hs → Prop} {k : Nat} {e : Ev} (M0 : ∀ g ∈ gs0, ∀ s, s ∈ g.2.2 ↔ (s, g.1.1) ∈ prs rs ∧ rest s g.1.1 = g.1.2) (hL : ∀ s ∈ rs, s.length = many) (h5 : many ≤ 5) (hf : rs.length ≤ 100) (I : P4 Z gz lo n m w many rs o gs0 h0 x1 k e h)
    (q : ∀ x4 x5 x6 x7 fs gs h, cell h m = some (.dcn (fD fs)) → (fs.map (·.1)).Nodup → Far rs o (look fs) → (∀ g ∈ gs, g ∈ gs0) → GH lo n gs h → (∀ g ∈ gz, g ∈ gs ∨ ∃ p ∈ fs, rest p.1 g.1.1 = g.1.2) → Gr [n, m, w] h0 h → R (.nx [some (.loc n), x1, some (.loc m), some (.loc w), x4, x5, x6, x7]) h) :
    Wp (whileS (asTest (op2 (cmpD .Lt) (varD 4) (callM lenD (consM (varD 3) (fun _ => M.pure []))))) tB5 e h) R := by
  refine wp_while (P4 Z gz lo n m w many rs o gs0 h0 x1) ?_ k e h I
  clear I
  rintro k e h ⟨at_, x5, x6, x7, gs, fs, d, rfl, hk, hl, sub, H, B, hd, D, G⟩
  have fl := B.len
  simp [H.wt]
  by_cases c : at_ < fs.length
  · simp only [c, decide_true]
    obtain ⟨p, hp⟩ : ∃ p, fs[at_]? = some p := ⟨_, List.getElem?_eq_getElem c⟩
    have hpm := List.mem_of_getElem? hp
    have B := B.raise (hd p hp)
    have lr := hL p.1 (B.inl _ hpm)
    refine ⟨tupI p.1, ?_, ?_⟩
    · rw [atI_lit, List.getElem?_map, hp]
      rfl
    simp only [augA]
    simp
    rw [tupI_eq]
    simp
    rw [← tupI_eq]
    refine ⟨by omega, ?_⟩
    refine (t5 (x6 := x6) (x7 := x7) (x4 := some (.int ((at_ : Int) + 1))) cl sub M0 hL h5 H B hf hpm).mono ?_
    rintro _ h1 ⟨e, rfl, x6, x7, gs1, ts, rfl, sub1, H1, B1, P, G1⟩
    simp only [onNx_nx, wp_next, onTurn_nx]
    have hp' : (fs ++ ts)[at_]? = some p := by rw [List.getElem?_append_left c]; exact hp
    refine ⟨k - 1, by omega, at_ + 1, _, x6, x7, gs1, fs ++ ts, p.2, rfl, by omega, by simp; omega, sub1, H1, B1, fun p' e => ?_, ?_, G.trans G1⟩
    · have l1 := (List.getElem?_eq_some_iff.mp e).1
      have := List.pairwise_iff_getElem.mp B1.up at_ (at_ + 1) (by omega) l1 (by omega)
      rw [List.getElem?_eq_getElem (by omega)] at hp' e
      rw [Option.some.inj hp', Option.some.inj e] at this
      exact this
    · intro j hj p' e s hs i hi he
      by_cases z : j = at_
      · subst z
        rw [hp'] at e
        cases e
        exact P i hi s hs he
      · exact D.app hl j (by omega) p' e s hs i hi he
  · simp only [c, decide_false]
    have e : at_ = fs.length := by omega
    subst e
    exact q _ _ _ _ fs gs h H.f B.nodup (B.far hL D) sub H.g B.keep G
theorem steps_gen {hs : Hs} {Q : Except Ex D → Hs → Prop} (cl : ∀ a ∈ rs, Z a → ∀ b ∈ rs, ∀ i, i < many → rest b i = rest a i → Z b) (zo : Z o) (hL : ∀ s ∈ rs, s.length = many) (h5 : many ≤ 5) (hf : rs.length ≤ 100) (ho : o ∈ rs) (H : GH lo n gs hs) (M0 : ∀ g ∈ gs, ∀ s, s ∈ g.2.2 ↔ (s, g.1.1) ∈ prs rs ∧ rest s g.1.1 = g.1.2) (hp : ∀ s ∈ rs, Z s → ∀ i, i < many → ∃ g ∈ gs, g.1 = (i, rest s i))
    (q : ∀ m fs gs' h, hs.length ≤ m → cell h m = some (.dcn (fD fs)) → (fs.map (·.1)).Nodup → Far rs o (look fs) → (∀ g ∈ gs', g ∈ gs) → GH lo n gs' h → (∀ g ∈ gs, g ∈ gs' ∨ ∃ p ∈ fs, rest p.1 g.1.1 = g.1.2) → Gr [n] hs h → Q (.ok (.loc m)) h) : Wp (r_steps_from [.loc n, tupI o] hs) Q := by
  unfold r_steps_from b_steps_from
  rw [wp_run]
  simp only [wp_seq]
  simp [wp_dispN]
  have nl := H.dict.lt
  rw [wp_dispNK (key_row o) cell_push]
  simp
  have c1 : cell (hs ++ [O.dcn [(tupI o, D.int 0)], O.lst [tupI o]]) hs.length = some (.dcn (fD [(o, 0)])) := cell_app (k := 0)
  have c2 : cell (hs ++ [O.dcn [(tupI o, D.int 0)], O.lst [tupI o]]) (hs.length + 1) = some (.lst [tupI o]) := cell_app (k := 1)
  have G0 : Gr [] hs (hs ++ [O.dcn [(tupI o, D.int 0)], O.lst [tupI o]]) := .app
  generalize hs ++ [O.dcn [(tupI o, D.int 0)], O.lst [tupI o]] = h0 at *
  have I : P4 Z gs lo n hs.length (hs.length + 1) many rs o gs h0 (some (tupI o)) rs.length [some (.loc n), some (tupI o), some (.loc hs.length), some (.loc (hs.length + 1)), some (.int ((0 : Nat) : Int)), none, none, none] h0 := by
    refine ⟨0, _, _, _, gs, [(o, 0)], 0, rfl, rfl, Nat.zero_le _, fun g h => h, ⟨H.gr G0 (by simp), c1, c2, fun g hg => cell_lt (H.cells g hg), nl, Nat.lt_succ_self _⟩, ⟨by simp, fun p hp => by rw [List.mem_singleton.mp hp]; exact ho, by simp, by simp, fun p hp => .inl (List.mem_singleton.mp hp), fun s hs sz i hi => .inl (hp s hs sz i hi), fun p hp => by rw [List.mem_singleton.mp hp]; exact Nat.zero_le _, fun p hp => by rw [List.mem_singleton.mp hp]; exact zo, fun g hg => .inl hg⟩, fun p e => Nat.zero_le _, fun j hj => by omega, .refl⟩
  refine t4 cl M0 hL h5 hf I fun x4 x5 x6 x7 fs gs' h hm nd F sub HG kp G => ?_
  simp
  refine q _ fs gs' h (Nat.le_refl _) hm nd F sub HG kp ⟨Nat.le_trans G0.le G.le, fun j hj hn => ?_⟩
  have hn : j ≠ n := by simpa using hn
  rw [G.at_ j (Nat.lt_of_lt_of_le hj G0.le) (by simp; omega), G0.at_ j hj (by simp)]
theorem steps_ok {hs : Hs} {Q : Except Ex D → Hs → Prop} (L : Lot many rs) (hf : rs.length ≤ 100) (ho : o ∈ rs) (H : GH lo n gs hs) (M0 : GM (prs rs) gs) (q : ∀ m fs h, hs.length ≤ m → cell h m = some (.dcn (fD fs)) → (fs.map (·.1)).Nodup → Far rs o (look fs) → Gr [n] hs h → Q (.ok (.loc m)) h) : Wp (r_steps_from [.loc n, tupI o] hs) Q :=
  steps_gen (Z := fun _ => True) (fun _ _ _ _ _ _ _ _ => trivial) trivial L.len L.hi hf ho H (fun g hg s => M0.mem g hg s) (fun s hs _ i hi => M0.all_ (s, i) (mem_prs.mpr ⟨hs, by rw [L.len s hs]; exact hi⟩)) fun m fs _ h a b c d _ _ _ e => q m fs h a b c d e
end
end DL.Row
set_option Elab.async false
set_option linter.all false
set_option maxRecDepth 100000
set_option maxHeartbeats 4000000
namespace DL.Row
open PySem PySem.Spec PyProof.Rows L2 DL

theorem small10k {n : Nat} (h : n ≤ 10000) : n < sizeLine := Nat.lt_of_le_of_lt h (by decide)
theorem atI_last {xs : List D} {y : D} : atI (xs ++ [y]) (-1) = some y := by
  unfold atI ixN
  rw [if_neg (by omega)]
  simp only [List.length_append, List.length_singleton]
  rw [if_pos (by omega)]
  have : (-1 + ((xs.length + 1 : Nat) : Int)).toNat = xs.length := by omega
  show (xs ++ [y])[(-1 + ((xs.length + 1 : Nat) : Int)).toNat]? = some y
  rw [this]
  simp
section
variable {many lo n m : Nat} {rs : List (List Int)} {o r : List Int} {gs : List Grp} {fs : List Stp} {d : Nat} {hs h : Hs}
/-! ## nearer rows -/
def lower (fs : List Stp) (d : Nat) (y : List Int) : Bool := decide ((look fs y).getD 0 < d)
def lowG (fs : List Stp) (d : Nat) (x : D) : Option D := match rowOf x with
  | some y => if lower fs d y = true then some x else none
  | none => none
theorem lowG_all (fs : List Stp) (d : Nat) : ∀ ms : List (List Int), (ms.map tupI).filterMap (lowG fs d) = (ms.filter (lower fs d)).map tupI
  | [] => rfl
  | y :: ms => by
    rw [List.map_cons, List.filterMap_cons, lowG_all fs d ms, List.filter_cons]
    simp only [lowG, rowOf_row]
    cases lower fs d y <;> simp
theorem GM.row {g : Grp} (M : GM (prs rs) gs) (hg : g ∈ gs) {s : List Int} : s ∈ g.2.2 ↔ s ∈ rs ∧ g.1.1 < s.length ∧ rest s g.1.1 = g.1.2 := by
  rw [M.mem g hg, mem_prs, and_assoc]
/-- who is nearer, by the first places -/
def NearTo (rs : List (List Int)) (fs : List Stp) (d : Nat) (r : List Int) (j : Nat) (y : List Int) : Prop := y ∈ rs ∧ lower fs d y = true ∧ ∃ i, i < j ∧ rest y i = rest r i
def PN (n m q many lo : Nat) (gs : List Grp) (rs : List (List Int)) (fs : List Stp) (d : Nat) (r : List Int) (hs : Hs) (j : Nat) (e : Ev) (h : Hs) : Prop := ∃ (x4 x5 : Option D) (ns : List (List Int)), e = [some (.loc n), some (.loc m), some (tupI r), some (.loc q), x4, x5] ∧ cell h q = some (.lst (ns.map tupI)) ∧ ns.length ≤ j * 500 ∧ (∀ y, y ∈ ns ↔ NearTo rs fs d r j y) ∧ Gr [q] hs h
theorem near_turn {q j : Nat} {ns : List (List Int)} {x5 : Option D} (L : Lot many rs) (hf : rs.length ≤ 100) (H : GH lo n gs h) (M0 : GM (prs rs) gs) (hm : cell h m = some (.dcn (fD fs))) (nd : (fs.map (·.1)).Nodup) (F : Far rs o (look fs)) (hr : look fs r = some d) (hj : j < r.length)
    (hq : cell h q = some (.lst (ns.map tupI))) (hns : ns.length ≤ j * 500) (hN : ∀ y, y ∈ ns ↔ NearTo rs fs d r j y) :
    Wp ((seqS (dropS (methM "list" extendD (varD 3) (consM (compM [5] (.one 5) (seqM (op2 ixD (varD 0) (callF 2 r_raw_rest (consM (varD 2) (consM (varD 4) (fun _ => M.pure [])))))) (asTest (op2 (cmpD .Lt) (op2 ixD (varD 1) (varD 5)) (op2 ixD (varD 1) (varD 2)))) (varD 5)) (fun _ => M.pure []))))
  nextS) [some (.loc n), some (.loc m), some (tupI r), some (.loc q), some (.int (j : Nat)), x5] h) fun r' h' => ∃ e, r' = .nx e ∧ PN n m q many lo gs rs fs d r h (j + 1) e h' := by
  have rr := F.inl _ _ hr
  have lr := L.len r rr
  have h5 := L.hi
  simp [hq]
  rw [raw_rest_ok (by omega)]
  simp
  obtain ⟨g, hg, e1⟩ := M0.all_ (r, j) (mem_prs.mpr ⟨rr, hj⟩)
  have fnd : findN (gD gs) (kK (j, rest r j)) = some (.loc g.2.1) := by
    rw [gD_find]
    rcases g_find (gs := gs) (k := (j, rest r j)) with ⟨g', hg', e1', e2⟩ | ⟨e1', _⟩
    · rw [e2, H.inj g hg g' hg' (.inl (by rw [e1, e1']))]
      rfl
    · exact absurd e1 (e1' g hg)
  refine wp_ix_at (key_k _) H.dict fnd ?_
  have hc := H.cells g hg
  have memg : ∀ s, s ∈ g.2.2 ↔ s ∈ rs ∧ j < s.length ∧ rest s j = rest r j := fun s => by rw [M0.row hg, e1]
  have gl : g.2.2.length ≤ 500 := by
    have h1 := M0.few g hg
    have h2 := prs_len (rs := rs) fun s hs => by have := L.len s hs; omega
    omega
  simp [hc]
  refine wp_comp_grow [] (lowG fs d) (fun h1 g1 => g1.get hc (by simp)) (by simpa using by omega) (fun x h1 hx g1 => ?_) fun h1 g1 => ?_
  · obtain ⟨y, hy, rfl⟩ := List.mem_map.mp hx
    have hy := (memg y).mp hy
    have hD : DAt h1 m (fD fs) := .inl (g1.get hm (by simp))
    obtain ⟨k, hk⟩ : ∃ k, look fs y = some k := by
      by_cases c : y = r
      · exact ⟨d, by rw [c]; exact hr⟩
      · obtain ⟨k, hk, _⟩ := F.step r d y hr hy.1 ⟨fun e => c e.symm, j, hj, hy.2.2.symm⟩
        exact ⟨k, hk⟩
    simp
    refine wp_ix_at (key_row y) hD (by rw [fD_find, hk]; rfl) ?_
    simp
    refine wp_ix_at (key_row r) hD (by rw [fD_find, hr]; rfl) ?_
    simp [lowG, rowOf_row, lower, hk]
    by_cases c : k < d <;> simp [c] <;> exact .refl
  · rw [lowG_all]
    simp
    have hq1 := g1.get hq (by simp)
    have lq := cell_lt hq1
    refine ⟨_, by rw [cell_push_lt lq]; exact hq1, ?_, ?_⟩
    · have := List.length_filter_le (lower fs d) g.2.2
      have : j * 500 ≤ 5 * 500 := Nat.mul_le_mul_right _ (by omega)
      simp
      exact Nat.le_of_lt (small10k (by omega))
    · refine ⟨_, _, ns ++ g.2.2.filter (lower fs d), rfl, ?_, ?_, fun y => ?_, ?_⟩
      · rw [cell_set_self (by simp; omega)]
        simp
      · have := List.length_filter_le (lower fs d) g.2.2
        simp [Nat.add_mul]
        omega
      · rw [List.mem_append, List.mem_filter, hN, memg]
        unfold NearTo
        constructor
        · rintro (⟨h1, h2, i, h3, h4⟩ | ⟨⟨h1, _, h3⟩, h2⟩)
          · exact ⟨h1, h2, i, by omega, h4⟩
          · exact ⟨h1, h2, j, by omega, h3⟩
        · rintro ⟨h1, h2, i, h3, h4⟩
          by_cases c : i = j
          · subst c
            exact .inr ⟨⟨h1, by rw [L.len y h1, ← lr]; exact hj, h4⟩, h2⟩
          · exact .inl ⟨h1, h2, i, by omega, h4⟩
      · exact ((g1.mono (by simp)).trans .push).trans (.set (by simp))
theorem nearer_ok {Q : Except Ex D → Hs → Prop} (L : Lot many rs) (hf : rs.length ≤ 100) (H : GH lo n gs hs) (M0 : GM (prs rs) gs) (hm : cell hs m = some (.dcn (fD fs))) (nd : (fs.map (·.1)).Nodup) (F : Far rs o (look fs)) (hr : look fs r = some d)
    (q : ∀ l (ns : List (List Int)) h, hs.length ≤ l → cell h l = some (.lst (ns.map tupI)) → (∀ y, y ∈ ns ↔ NearTo rs fs d r many y) → Gr [] hs h → Q (.ok (.loc l)) h) : Wp (r_nearer_rows [.loc n, .loc m, tupI r] hs) Q := by
  have lr := L.len r (F.inl _ _ hr)
  have h5 := L.hi
  unfold r_nearer_rows b_nearer_rows
  rw [wp_run]
  simp only [wp_seq]
  simp [-wp_pure, pureN, -wp_newL, newLN]
  rw [tupI_eq]
  simp [-wp_pure, pureN, -wp_newL, newLN]
  rw [← tupI_eq]
  refine ⟨by omega, ?_⟩
  obtain ⟨l, hl⟩ : ∃ l, l = hs.length := ⟨_, rfl⟩
  have c0 : cell (hs ++ [.lst []]) l = some (.lst []) := by rw [hl]; exact cell_push
  have G0 : Gr [] hs (hs ++ [.lst []]) := .push
  rw [← hl]
  generalize hs ++ [.lst []] = h0 at *
  refine wp_for (PN n m l many lo gs rs fs d r h0) ⟨_, _, [], rfl, c0, by simp, fun y => by simp [NearTo], .refl⟩ ?_ ?_
  · rintro j dd e h hj ⟨x4, x5, ns, rfl, hc, hz, hN, G⟩
    obtain ⟨hjl, rfl⟩ := intL_at hj
    refine ⟨trivial, ?_⟩
    rw [bodyK_one, Int.zero_add]
    have nl := H.dict.lt
    have ml := cell_lt hm
    refine (near_turn (x5 := x5) L hf ((H.gr G0 (by simp)).gr G ?_) M0 (G.get (G0.get hm (by simp)) (by simp; omega)) nd F hr hjl hc hz hN).mono ?_
    · intro k hk
      rw [List.mem_singleton.mp hk]
      refine ⟨by omega, fun g hg => ?_⟩
      have := cell_lt (H.cells g hg)
      omega
    · rintro _ h1 ⟨e, rfl, x4, x5, ns, rfl, hc, hz, hN, G1⟩
      exact ⟨_, _, ns, rfl, hc, hz, hN, G.trans G1⟩
  · rintro e h ⟨x4, x5, ns, rfl, hc, hz, hN, G⟩
    refine ⟨trivial, ?_⟩
    rw [intL_len, lr] at hN
    simp
    exact q l ns h (by omega) hc hN ⟨Nat.le_trans G0.le G.le, fun k hk _ => by
      rw [G.at_ k (Nat.lt_of_lt_of_le hk G0.le) (by simp; omega), G0.at_ k hk (by simp)]⟩
end
end DL.Row
set_option Elab.async false
set_option linter.all false
set_option maxRecDepth 100000
set_option maxHeartbeats 4000000
namespace DL.Row
open PySem PySem.Spec PyProof.Rows L2 DL

/-! ## the least way -/
noncomputable def isNext (F : List Int → Option Nat) (n : Nat) (r y : List Int) : Bool := @decide (nr r y ∧ F y = some n) (Classical.propDecidable _)
theorem isNext_iff {F : List Int → Option Nat} {n : Nat} {r y : List Int} : isNext F n r y = true ↔ nr r y ∧ F y = some n := by
  unfold isNext
  exact @decide_eq_true_iff _ (Classical.propDecidable _)
noncomputable def nextR (F : List Int → Option Nat) (rs : List (List Int)) (n : Nat) (r : List Int) : List Int := (rs.filter (isNext F n r)).headD []
noncomputable def wayR (F : List Int → Option Nat) (rs : List (List Int)) : Nat → List Int → List (List Int)
  | 0, r => [r]
  | n + 1, r => r :: wayR F rs n (nextR F rs n r)
theorem wayR_len {F : List Int → Option Nat} {rs : List (List Int)} : ∀ {n : Nat} {r : List Int}, (wayR F rs n r).length = n + 1
  | 0, _ => rfl
  | n + 1, r => by simp [wayR, wayR_len (n := n)]
theorem next_one {F : List Int → Option Nat} {rs : List (List Int)} {n : Nat} {r x : List Int} (hu : rs.Pairwise (· < ·)) (hx : x ∈ rs) (h1 : nr r x) (h2 : F x = some n) (hm : ∀ y ∈ rs, nr r y → F y = some n → ¬ y < x) : nextR F rs n r = x := by
  unfold nextR
  have hxm : x ∈ rs.filter (isNext F n r) := List.mem_filter.mpr ⟨hx, isNext_iff.mpr ⟨h1, h2⟩⟩
  have hp := hu.sublist (List.filter_sublist (p := isNext F n r) (l := rs))
  have hall : ∀ y ∈ rs.filter (isNext F n r), ¬ y < x := fun y hy => by
    have := List.mem_filter.mp hy
    have h := isNext_iff.mp this.2
    exact hm y this.1 h.1 h.2
  cases hl : rs.filter (isNext F n r) with
  | nil => rw [hl] at hxm; cases hxm
  | cons a l =>
    rw [hl] at hxm hp hall
    rcases List.mem_cons.mp hxm with h | h
    · exact h.symm
    · exact absurd ((List.pairwise_cons.mp hp).1 x h) (hall a (by simp))
section
variable {many lo n m : Nat} {rs : List (List Int)} {o one r : List Int} {gs : List Grp} {fs : List Stp} {d : Nat} {hs h : Hs}
/-- nearer by the groups: nearer by a step -/
theorem near_step (L : Lot many rs) (F : Far rs o (look fs)) {k : Nat} (hr : look fs r = some (k + 1)) {y : List Int} : NearTo rs fs (k + 1) r many y ↔ y ∈ rs ∧ nr r y ∧ look fs y = some k := by
  have rr := F.inl _ _ hr
  constructor
  · rintro ⟨h1, h2, i, h3, h4⟩
    have ne : r ≠ y := fun e => by subst e; simp [lower, hr] at h2
    have nn : nr r y := ⟨ne, i, by rw [L.len r rr]; exact h3, h4.symm⟩
    obtain ⟨j, e1, h5⟩ := F.step r _ y hr h1 nn
    obtain ⟨j2, e2, h6⟩ := F.step y _ r e1 rr (nn.symm (by rw [L.len r rr, L.len y h1]))
    rw [hr] at e2
    cases e2
    simp [lower, e1] at h2
    exact ⟨h1, nn, by rw [e1]; congr 1; omega⟩
  · rintro ⟨h1, ⟨_, i, h3, h4⟩, h5⟩
    exact ⟨h1, by simp [lower, h5], i, by rw [← L.len r rr]; exact h3, h4.symm⟩
theorem near_some (L : Lot many rs) (F : Far rs o (look fs)) {k : Nat} (hr : look fs r = some (k + 1)) : ∃ y, y ∈ rs ∧ nr r y ∧ look fs y = some k := by
  rcases F.par r _ hr with ⟨_, e⟩ | ⟨p, j, e1, e2, e3⟩
  · omega
  · have hp := F.inl _ _ e1
    exact ⟨p, hp, e3.symm (by rw [L.len p hp, L.len r (F.inl _ _ hr)]), by rw [e1]; congr 1; omega⟩
/-- the way found so far -/
def PW (many lo n m q : Nat) (rs : List (List Int)) (one o : List Int) (gs : List Grp) (fs : List Stp) (hs : Hs) (d : Nat) (k : Nat) (e : Ev) (h : Hs) : Prop := ∃ pre cur, e = [some (tupR rs), some (tupI one), some (tupI o), some (.loc m), some (.loc n), some (.loc q)] ∧ cell h q = some (.lst ((pre ++ [cur]).map tupI)) ∧ look fs cur = some k ∧ pre.length + k = d ∧ pre ++ wayR (look fs) rs k cur = wayR (look fs) rs d one ∧ Gr [q] hs h
def PNear (many : Nat) (rs : List (List Int)) (fs : List Stp) (d : Nat) (r : List Int) (h : Hs) (x : D) (h1 : Hs) : Prop := ∃ (l : Nat) (ns : List (List Int)), x = .loc l ∧ cell h1 l = some (.lst (ns.map tupI)) ∧ (∀ y, y ∈ ns ↔ NearTo rs fs d r many y) ∧ Gr [] h h1
theorem nearer_ok2 (L : Lot many rs) (hf : rs.length ≤ 100) (H : GH lo n gs hs) (M0 : GM (prs rs) gs) (hm : cell hs m = some (.dcn (fD fs))) (nd : (fs.map (·.1)).Nodup) (F : Far rs o (look fs)) (hr : look fs r = some d) : Wp (r_nearer_rows [.loc n, .loc m, tupI r] hs) (okq (PNear many rs fs d r hs)) :=
  nearer_ok L hf H M0 hm nd F hr fun l ns h1 _ a b c => ⟨l, ns, rfl, a, b, c⟩
theorem way_loop {q : Nat} {R : Fl → Hs → Prop} {e : Ev} (L : Lot many rs) (hf : rs.length ≤ 100) (H : GH lo n gs hs) (M0 : GM (prs rs) gs) (hm : cell hs m = some (.dcn (fD fs))) (nd : (fs.map (·.1)).Nodup) (F : Far rs o (look fs)) (hd : d ≤ 100)
    (hq : q < hs.length) (qn : q ≠ n) (qm : q ≠ m) (qg : ∀ g ∈ gs, g.2.1 ≠ q) (I : PW many lo n m q rs one o gs fs hs d d e hs) (fin : ∀ h, cell h q = some (.lst ((wayR (look fs) rs d one).map tupI)) → Gr [q] hs h → R (.nx [some (tupR rs), some (tupI one), some (tupI o), some (.loc m), some (.loc n), some (.loc q)]) h) :
    Wp (whileS (asTest (op2 (cmpD .NotEq) (op2 ixD (varD 5) (negV (fun _ => M.pure (.int 1)))) (varD 2)))
  (seqS (dropS (methM "list" appendD (varD 5) (consM (callM min2 (consM (callF 3 r_nearer_rows (consM (varD 4) (consM (varD 3) (consM (op2 ixD (varD 5) (negV (fun _ => M.pure (.int 1)))) (fun _ => M.pure []))))) (fun _ => M.pure []))) (fun _ => M.pure []))))
  nextS) e hs) R := by
  refine wp_while (PW many lo n m q rs one o gs fs hs d) (fun k e h I => ?_) d e hs I
  obtain ⟨pre, cur, rfl, hc, hk, hl, hw, G⟩ := I
  have kz : cur = o ∨ ∃ j, k = j + 1 ∧ cur ≠ o := by
    by_cases c : cur = o
    · exact .inl c
    · cases k with
      | zero => exact absurd (F.zero hk) c
      | succ j => exact .inr ⟨j, rfl, c⟩
  have at1 : atI ((pre ++ [cur]).map tupI) (-1) = some (tupI cur) := by
    rw [List.map_append]
    exact atI_last
  simp [-wp_cmpNe, -List.map_append]
  refine ⟨_, hc, _, at1, ?_⟩
  rw [wp_cmpNe, eq_row]
  simp [-List.map_append]
  rcases kz with c | ⟨k, rfl, c⟩
  · subst c
    simp
    rw [F.base] at hk
    cases hk
    refine fin h ?_ G
    rw [hc, ← hw]
    rfl
  · simp [c, -List.map_append]
    refine ⟨⟨_, hc⟩, _, hc, _, at1, ?_⟩
    have Hh : GH lo n gs h := H.gr G (by simp; exact ⟨qn, fun a b c d hg e => qg _ hg e⟩)
    have hmh : cell h m = some (.dcn (fD fs)) := G.get hm (by simp; exact Ne.symm qm)
    have t := nearer_ok2 L hf Hh M0 hmh nd F hk
    refine t.mono ?_
    clear t
    rintro (_ | _) h1 qq
    · exact qq.elim
    obtain ⟨l, ns, rfl, hcl, hN, G1⟩ := qq
    simp [-List.map_append]
    have hne : ns ≠ [] := fun e => by
      obtain ⟨y, hy⟩ := near_some L F hk
      have := (hN y).mpr ((near_step L F hk).mpr hy)
      rw [e] at this
      cases this
    refine wp_min_rows hcl hne fun x hx hmin => ?_
    have nx := (near_step L F hk).mp ((hN x).mp hx)
    have hc1 := G1.get hc (by simp)
    refine ⟨_, hc1, small1000 (by simp; omega), ?_⟩
    refine ⟨k, Nat.lt_succ_self k, pre ++ [cur], x, rfl, ?_, nx.2.2, by simp; omega, ?_, G.trans ((G1.mono (by simp)).trans (.set (by simp)))⟩
    · rw [cell_set_self (cell_lt hc1)]
      simp
    · rw [← hw, List.append_assoc]
      simp only [wayR, List.singleton_append]
      rw [next_one L.up nx.1 nx.2.1 nx.2.2 fun y h1 h2 h3 => hmin y ((hN y).mpr ((near_step L F hk).mpr ⟨h1, h2, h3⟩))]
theorem far_small (L : Lot many rs) (hf : rs.length ≤ 100) {F : List Int → Option Nat} (f : Far rs o F) : ∀ {d : Nat} {r : List Int}, F r = some d → d ≤ 100 := by
  have key : ∀ (d : Nat) (r : List Int), F r = some d → ∃ ps : List (List Int), ps.Nodup ∧ ps.length = d + 1 ∧ ∀ p ∈ ps, p ∈ rs ∧ ∃ k, F p = some k ∧ k ≤ d := by
    intro d
    induction d with
    | zero => exact fun r e => ⟨[r], by simp, rfl, fun p hp => by rw [List.mem_singleton.mp hp]; exact ⟨f.inl _ _ e, 0, e, Nat.le_refl _⟩⟩
    | succ d ih =>
      intro r e
      rcases f.par r _ e with ⟨_, e2⟩ | ⟨p, j, e1, e2, _⟩
      · omega
      · obtain rfl : d = j := by omega
        obtain ⟨ps, h1, h2, h3⟩ := ih p e1
        refine ⟨r :: ps, List.nodup_cons.mpr ⟨fun hr => ?_, h1⟩, by simp [h2], fun q hq => ?_⟩
        · obtain ⟨_, k, e3, h4⟩ := h3 r hr
          rw [e] at e3
          cases e3
          omega
        · rcases List.mem_cons.mp hq with rfl | hq
          · exact ⟨f.inl _ _ e, d + 1, e, Nat.le_refl _⟩
          · obtain ⟨h4, k, e3, h5⟩ := h3 q hq
            exact ⟨h4, k, e3, by omega⟩
  intro d r e
  obtain ⟨ps, h1, h2, h3⟩ := key d r e
  have := nodup_sub h1 fun p hp => (h3 p hp).1
  omega
theorem raw_way_ok {Q : Except Ex D → Hs → Prop} (L : Lot many rs) (hf : rs.length ≤ 100) (h1 : one ∈ rs) (h2 : o ∈ rs)
    (q : ∀ F h, Far rs o F → Gr [] hs h → Q (.ok (match F one with | some d => tupR (wayR F rs d one) | none => .non)) h) : Wp (r_raw_way [tupR rs, tupI one, tupI o] hs) Q := by
  unfold r_raw_way b_raw_way
  rw [wp_run]
  simp only [wp_seq]
  simp [-wp_cmpNotIn]
  refine rests_ok L hf fun n gs ha hn H M0 Ga => ?_
  simp [-wp_cmpNotIn]
  refine steps_ok L hf h2 H M0 fun m fs hb hm cm nd F Gb => ?_
  simp [-wp_cmpNotIn]
  rw [wp_notIn_at (key_row one) (.inl cm), fD_find]
  have Gab : Gr [] hs hb := ⟨Nat.le_trans Ga.le Gb.le, fun j hj _ => by
    rw [Gb.at_ j (Nat.lt_of_lt_of_le hj Ga.le) (by simp; omega), Ga.at_ j hj (by simp)]⟩
  cases e : look fs one with
  | none =>
    simp
    have := q _ hb F Gab
    rw [e] at this
    exact this
  | some d =>
    simp
    refine rests_ok L hf fun n2 gs2 hc hn2 H2 M2 Gc => ?_
    simp
    have e1 : cell (hc ++ [O.lst [tupI one]]) hc.length = some (.lst (([] ++ [one]).map tupI)) := cell_push
    have Gd : Gr [] hc (hc ++ [O.lst [tupI one]]) := .push
    have ln := H2.dict.lt
    have lm := cell_lt cm
    have := Gc.le
    have e2 : (hc ++ [O.lst [tupI one]]).length = hc.length + 1 := by simp
    obtain ⟨l, hl⟩ : ∃ l, l = hc.length := ⟨_, rfl⟩
    rw [← hl] at e1 ⊢
    generalize hc ++ [O.lst [tupI one]] = hd at *
    refine way_loop (one := one) (q := l) L hf (H2.gr Gd (by simp)) M2 (Gd.get (Gc.get cm (by simp)) (by simp)) nd F (far_small L hf F e) (by omega) (by omega) (by omega) (fun g hg => by have := cell_lt (H2.cells g hg); omega) ⟨[], one, rfl, e1, e, by simp, rfl, .refl⟩ fun h cw G => ?_
    simp [cw]
    have := q _ h F ⟨Nat.le_trans Gab.le (Nat.le_trans Gc.le (Nat.le_trans Gd.le G.le)), fun j hj _ => by
      have := Gab.le
      rw [G.at_ j (by omega) (by simp; omega), Gd.at_ j (by omega) (by simp), Gc.at_ j (by omega) (by simp), Gab.at_ j hj (by simp)]⟩
    rw [e] at this
    exact this
end
end DL.Row
set_option Elab.async false
set_option linter.all false
set_option maxRecDepth 100000
set_option maxHeartbeats 4000000
namespace DL.Row
open PySem PySem.Spec PyProof.Rows L2 DL

/-! ## _law_is -/
noncomputable def b__law_is (me : List D → M D) : Ev → S := (seqS (ifS (truth (callM isiD (consM (varD 1) (consM (tupM (consM (fun _ => M.pure (.ty "tuple")) (consM (fun _ => M.pure (.ty "list")) (fun _ => M.pure [])))) (fun _ => M.pure [])))))
  (seqS (ifS (orM (asTest (op2 (cmpD .NotEq) (callM isiD (consM (varD 0) (consM (fun _ => M.pure (.ty "tuple")) (fun _ => M.pure [])))) (callM isiD (consM (varD 1) (consM (fun _ => M.pure (.ty "tuple")) (fun _ => M.pure [])))))) (asTest (op2 (cmpD .NotEq) (callM isiD (consM (varD 0) (consM (fun _ => M.pure (.ty "list")) (fun _ => M.pure [])))) (callM isiD (consM (varD 1) (consM (fun _ => M.pure (.ty "list")) (fun _ => M.pure [])))))))
  (seqS (retS (fun _ => M.pure (.bl false)))
  nextS)
  nextS)
  (seqS (retS (andV (op2 (cmpD .Eq) (callM lenD (consM (varD 0) (fun _ => M.pure []))) (callM lenD (consM (varD 1) (fun _ => M.pure [])))) (callM allD (consM (compM [2] (.one 2) (rngM 1 (consM (callM lenD (consM (varD 1) (fun _ => M.pure []))) (fun _ => M.pure []))) (fun _ => M.pure true) (callF 2 me (consM (op2 ixD (varD 0) (varD 2)) (consM (op2 ixD (varD 1) (varD 2)) (fun _ => M.pure []))))) (fun _ => M.pure [])))))
  nextS))
  nextS)
  (seqS (retS (andV (op2 (cmpD .Eq) (callM isiD (consM (varD 0) (consM (fun _ => M.pure (.ty "bool")) (fun _ => M.pure [])))) (callM isiD (consM (varD 1) (consM (fun _ => M.pure (.ty "bool")) (fun _ => M.pure []))))) (op2 (cmpD .Eq) (varD 0) (varD 1))))
  nextS))
/-- r -/
theorem isi_ofs {hs : Hs} {Q : D → Hs → Prop} {d : D} {T : String} {ts : List D} {c : Bool} (h1 : tyD hs d = some T) (h2 : kitBs T ts = some c) : Wp (isiD [d, .tup ts] hs) Q = Q (.bl c) hs := by
  unfold isiD
  simp only [h1, h2]
  rfl
theorem isi2_int {hs : Hs} {Q : D → Hs → Prop} {i : Int} : Wp (isiD [.int i, .tup [.ty "tuple", .ty "list"]] hs) Q = Q (.bl false) hs := isi_ofs rfl (by decide +kernel)
theorem isi2_bl {hs : Hs} {Q : D → Hs → Prop} {i : Bool} : Wp (isiD [.bl i, .tup [.ty "tuple", .ty "list"]] hs) Q = Q (.bl false) hs := isi_ofs rfl (by decide +kernel)
theorem isi2_non {hs : Hs} {Q : D → Hs → Prop} : Wp (isiD [.non, .tup [.ty "tuple", .ty "list"]] hs) Q = Q (.bl false) hs := isi_ofs rfl (by decide +kernel)
theorem isi2_str {hs : Hs} {Q : D → Hs → Prop} {x : Str} : Wp (isiD [.str x, .tup [.ty "tuple", .ty "list"]] hs) Q = Q (.bl false) hs := isi_ofs rfl (by decide +kernel)
theorem isi2_tup {hs : Hs} {Q : D → Hs → Prop} {xs : List D} : Wp (isiD [.tup xs, .tup [.ty "tuple", .ty "list"]] hs) Q = Q (.bl true) hs := isi_ofs rfl (by decide +kernel)
/-- the same thing is told as itself -/
def IsOk (me : List D → M D) (d : D) : Prop := ∀ (hs : Hs) (Q : Except Ex D → Hs → Prop), (∀ h, Gr [] hs h → Q (.ok (.bl true)) h) → Wp (me [d, d] hs) Q
theorem is_int {me : List D → M D} (i : Int) : IsOk (runB 3 (b__law_is me)) (.int i) := fun hs Q q => by
  unfold b__law_is
  simp [isi2_int]
  exact q _ .refl
theorem is_bl {me : List D → M D} (i : Bool) : IsOk (runB 3 (b__law_is me)) (.bl i) := fun hs Q q => by
  unfold b__law_is
  simp [isi2_bl]
  exact q _ .refl
theorem is_str {me : List D → M D} (x : Str) : IsOk (runB 3 (b__law_is me)) (.str x) := fun hs Q q => by
  unfold b__law_is
  simp [isi2_str]
  exact q _ .refl
theorem is_tup {me : List D → M D} {xs : List D} (hl : xs.length ≤ 1000) (ih : ∀ x ∈ xs, IsOk me x) : IsOk (runB 3 (b__law_is me)) (.tup xs) := fun hs Q q => by
  unfold b__law_is
  simp [isi2_tup]
  refine ⟨by omega, ?_⟩
  refine wp_comp_grow [] (fun _ => some (.bl true)) (fun _ _ => trivial) (by rw [intL_len]; exact hl) (fun d h hd g => ?_) fun h g => ?_
  · obtain ⟨j, hj⟩ := List.mem_iff_getElem?.mp hd
    obtain ⟨hjl, rfl⟩ := intL_at hj
    rw [Int.zero_add]
    simp [atI_lit]
    refine ⟨_, List.getElem?_eq_getElem hjl, _, List.getElem?_eq_getElem hjl, ?_⟩
    refine ih _ (List.getElem_mem hjl) _ _ fun h1 g1 => ?_
    simp
    exact g1
  · rw [fm_true]
    simp
    exact q _ (g.trans .push)
theorem is_row {me : List D → M D} {r : List Int} (hl : r.length ≤ 1000) : IsOk (runB 3 (b__law_is (runB 3 (b__law_is me)))) (tupI r) := is_tup (by simpa using hl) fun x hx => by
  obtain ⟨i, _, rfl⟩ := List.mem_map.mp hx
  exact is_int i
theorem is_rows {me : List D → M D} {rs : List (List Int)} (hl : rs.length ≤ 1000) (hr : ∀ r ∈ rs, r.length ≤ 1000) : IsOk (runB 3 (b__law_is (runB 3 (b__law_is (runB 3 (b__law_is me)))))) (tupR rs) := is_tup (by simpa using hl) fun x hx => by
  obtain ⟨r, h, rfl⟩ := List.mem_map.mp hx
  exact is_row (hr r h)
/-! ## draws -/
theorem ints_draw {p : Nat} {hs : Hs} {B : Int} {n : Nat} {Q : List D → Hs → Prop} {turn : D → M (Option D)} (h : Pot p hs) (hn : n ≤ 1000) (step : ∀ d h K, Pot p h → (∀ v h', 0 ≤ v → v < B → Pg p h h' → K (.ok (some (.int v))) h') → Wp (turn d h) K) (k : ∀ (xs : List Int) h', xs.length = n → (∀ x ∈ xs, 0 ≤ x ∧ x < B) → Pg p hs h' → Q (xs.map .int) h') : Wp (compS (fun _ => True) turn (intL 0 n) [] hs) Q := by
  refine wp_comp (fun j acc h => ∃ xs : List Int, acc = xs.map .int ∧ xs.length = j ∧ (∀ x ∈ xs, 0 ≤ x ∧ x < B) ∧ Pg p hs h) ⟨[], rfl, rfl, (fun _ h => nomatch h), .refl h⟩ ?_ ?_
  · rintro j d acc h1 hj ⟨xs, rfl, hl, bd, g1⟩
    refine ⟨trivial, ?_⟩
    have := (intL_at hj).1
    refine step _ _ _ g1.pot fun v h2 a1 a2 g2 => ?_
    refine ⟨small1000 (by simp; omega), xs ++ [v], by simp, by simp [hl], fun x hx => ?_, g1.trans g2⟩
    rcases List.mem_append.mp hx with hx | hx
    · exact bd x hx
    · rw [List.mem_singleton.mp hx]; exact ⟨a1, a2⟩
  · rintro acc h1 ⟨xs, rfl, hl, bd, g1⟩
    rw [intL_len] at hl
    exact ⟨trivial, k xs _ hl bd g1⟩
/-! ## sorted(set(rows)) -/
theorem rowsOfD_map : ∀ rs : List (List Int), rowsOfD (rs.map tupI) = some rs
  | [] => rfl
  | r :: rs => by simp [rowsOfD, rowOf_row, rowsOfD_map rs]
theorem wp_sortSetT {fa : Ev → M D} {e : Ev} {hs : Hs} {Q : Except Ex D → Hs → Prop} : Wp (sortSetT fa e hs) Q = Wp (fa e hs) (onOk (fun d => M.lift (sortSet2 d)) Q) := by
  unfold sortSetT; rw [wp_bind]
theorem wp_sortset_rows {hs : Hs} {n many : Nat} {rs : List (List Int)} {Q : D → Hs → Prop} (hc : cell hs n = some (.lst (rs.map tupI))) (h0 : rs ≠ []) (h64 : rs.length < 64) (h1 : 1 ≤ many) (hl : ∀ r ∈ rs, r.length = many ∧ ∀ x ∈ r, 0 ≤ x) (q : Q (.loc hs.length) (hs ++ [.lst ((usortR rs).map tupI)])) : Wp (sortSet2 (.loc n) hs) Q := by
  obtain ⟨r, rt, rfl⟩ : ∃ r rt, rs = r :: rt := by
    cases rs with
    | nil => exact absurd rfl h0
    | cons a b => exact ⟨a, b, rfl⟩
  rw [← cell_eq] at hc
  have e1 : sortSetD (.loc n) hs = none := by
    unfold sortSetD listOf
    simp only [hc]
    unfold tupI
    simp [intsD]
  have e2 : sortSetTD (.loc n) hs = some (.loc hs.length, hs ++ [.lst ((usortR (r :: rt)).map tupI)]) := by
    unfold sortSetTD listOf
    simp only [hc, rowsOfD_map]
    rw [if_pos]
    · rfl
    · have l0 := (hl r (by simp)).1
      simp only [Bool.and_eq_true, decide_eq_true_eq]
      refine ⟨⟨h64, by omega⟩, ?_⟩
      unfold allLen
      rw [List.all_eq_true]
      intro k hk
      have := hl k hk
      simp only [Bool.and_eq_true, decide_eq_true_eq, List.all_eq_true]
      exact ⟨by rw [this.1, l0], this.2⟩
  unfold sortSet2
  rw [e1]
  simp only [e2]
  exact q
theorem usortR_some {rs : List (List Int)} (h0 : rs ≠ []) : usortR rs ≠ [] := fun e => by
  cases rs with
  | nil => exact h0 rfl
  | cons r rt =>
    have : r ∈ usortR (r :: rt) := usortR_mem.mpr (by simp)
    rw [e] at this
    cases this
theorem usortR_lot {many : Nat} {rs : List (List Int)} (h0 : rs ≠ []) (hl : ∀ r ∈ rs, r.length = many) (lo : 3 ≤ many) (hi : many ≤ 5) (hf : rs.length ≤ 1000) : Lot many (usortR rs) :=
  ⟨usortR_some h0, fun r hr => hl r (usortR_mem.mp hr), lo, hi, usortR_sorted, Nat.le_trans (usortR_len rs) hf⟩
end DL.Row
set_option Elab.async false
set_option linter.all false
set_option maxRecDepth 100000
set_option maxHeartbeats 4000000
namespace DL.Row
open PySem PySem.Spec PyProof.Rows L2 DL

/-! ## sorted(..) of things in a strict order -/
structure OrdD {α : Type} (f : α → D) (pf : α → PyData) (lt : α → α → Prop) : Prop where
  py : ∀ (φ : Nat → Option PyData) a, D.py φ (f a) = some (pf a)
  alike : ∀ a b, PySem.W.alike (pf a) (pf b) = true
  deep : ∀ a, (pf a).depth ≤ 50
  lt_iff : ∀ a b, PySem.W.dataLt (pf a) (pf b) = true ↔ lt a b
  irr : ∀ a, ¬ lt a a
  tri : ∀ a b, lt a b ∨ a = b ∨ lt b a
section
variable {α : Type} {f : α → D} {pf : α → PyData} {lt : α → α → Prop}
theorem pys_ord (O : OrdD f pf lt) {φ : Nat → Option PyData} : ∀ xs : List α, D.pys φ (xs.map f) = some (xs.map pf)
  | [] => rfl
  | x :: xs => by simp [D.pys, O.py, pys_ord O xs]
theorem wp_sort (O : OrdD f pf lt) {hs : Hs} {d : D} {xs : List α} {Q : D → Hs → Prop} (hi : itemsD hs d = some (xs.map f)) (ht : ∀ x ∈ xs, pdT1 (pf x) = true) (q : ∀ ys : List α, ys.Perm xs → ys.Pairwise (fun a b => ¬ lt b a) → Q (.loc hs.length) (hs ++ [.lst (ys.map f)])) : Wp (sortD [d] hs) Q := by
  have ok : srtOk (xs.map pf) = true := by
    unfold srtOk
    simp only [Bool.and_eq_true, Bool.or_eq_true, List.all_eq_true, decide_eq_true_eq, List.mem_map]
    refine ⟨⟨?_, .inl ?_⟩, ?_⟩
    · rintro _ ⟨a, _, rfl⟩ _ ⟨b, _, rfl⟩
      exact O.alike a b
    · rintro _ ⟨a, ha, rfl⟩
      exact ht a ha
    · rintro _ ⟨a, _, rfl⟩
      exact O.deep a
  have tot : PySem.W.TotalLe (PySem.W.dataLe false pf) := PySem.W.sortLe_total _ _ _
  have perm := List.mergeSort_perm xs (PySem.W.dataLe false pf)
  have srt := List.pairwise_mergeSort (le := PySem.W.dataLe false pf) tot.trans (fun a b => by rcases tot.total a b with h | h <;> simp [h]) xs
  have e : srtL hs (xs.map f) = some ((xs.mergeSort (PySem.W.dataLe false pf)).map f) := by
    unfold srtL
    rw [pys_ord O xs]
    simp only [ok, if_true]
    have z : (xs.map f).zip (xs.map pf) = xs.map fun x => (f x, pf x) := by
      rw [List.zip_map']
    rw [z, ← sort_map (fun x => (f x, pf x)) (fun y => y.2) xs, List.map_map]
    rfl
  unfold sortD
  simp only [hi, e]
  refine q _ perm (srt.imp fun {a b} h l => ?_)
  have h : (!PySem.W.dataLt (pf b) (pf a)) = true := h
  rw [(O.lt_iff b a).mpr l] at h
  cases h
/-- apart, and none below the one before: rising -/
theorem rising_of (O : OrdD f pf lt) {xs ys : List α} (p : ys.Perm xs) (h : ys.Pairwise fun a b => ¬ lt b a) (hn : xs.Nodup) : ys.Pairwise lt := by
  have hn : ys.Nodup := p.nodup_iff.mpr hn
  refine (List.pairwise_and_iff.mpr ⟨h, hn⟩).imp fun {a b} ⟨h1, h2⟩ => ?_
  rcases O.tri a b with h | h | h
  · exact h
  · exact absurd h h2
  · exact absurd h h1
end
theorem ordR : OrdD tupI pd (fun a b : List Int => a < b) := ⟨fun φ a => py_row a, alike_row, fun a => Nat.le_trans (deep_row a) (by decide), fun a b => by rw [lt_row]; simp, row_irrefl, row_tri⟩
/-! tuples of rows -/
def pdP (p : List (List Int)) : PyData := .tuple (p.map pd)
theorem toks_ltP : ∀ (a b : List (List Int)), PyProof.Rows.lexLt itemOrd (PySem.W.keyToksAll (a.map pd)) (PySem.W.keyToksAll (b.map pd)) = decide (a < b)
  | [], [] => by simp [PySem.W.keyToksAll, PyProof.Rows.lexLt, itemOrd, itemLt]
  | [], y :: b => by simp [PySem.W.keyToksAll, PyProof.Rows.lexLt, itemOrd, itemLt]
  | x :: a, [] => by simp [PySem.W.keyToksAll, PyProof.Rows.lexLt, itemOrd, itemLt]
  | x :: a, y :: b => by
    have ih := toks_ltP a b
    have t := PySem.W.toks_eqv (pd x) (pd y) (alike_row x y)
    rw [List.map_cons, List.map_cons, PySem.W.toks_all_cons, PySem.W.toks_all_cons, PyProof.Rows.lex_self]
    by_cases c : x = y
    · subst c
      rw [PySem.W.lex_pre, ih, decide_eq_decide, List.cons_lt_cons_iff]
      exact ⟨fun h => .inr ⟨rfl, h⟩, fun h => h.resolve_left (row_irrefl x) |>.2⟩
    · rw [t.2 (by rw [eqv_row]; simp [c])]
      have q : PyProof.Rows.lexLt itemOrd (PySem.W.keyToks (pd x)) (PySem.W.keyToks (pd y)) = decide (x < y) := lt_row x y
      rw [q, decide_eq_decide, List.cons_lt_cons_iff]
      exact ⟨fun h => .inl h, fun h => h.resolve_right fun z => c z.1⟩
theorem tri_P : ∀ (a b : List (List Int)), a < b ∨ a = b ∨ b < a
  | [], [] => .inr (.inl rfl)
  | [], _ :: _ => .inl (List.nil_lt_cons _ _)
  | _ :: _, [] => .inr (.inr (List.nil_lt_cons _ _))
  | x :: a, y :: b => by
    rcases row_tri x y with h | h | h
    · exact .inl (List.cons_lt_cons_iff.mpr (.inl h))
    · subst h
      rcases tri_P a b with h | h | h
      · exact .inl (List.cons_lt_cons_iff.mpr (.inr ⟨rfl, h⟩))
      · exact .inr (.inl (by rw [h]))
      · exact .inr (.inr (List.cons_lt_cons_iff.mpr (.inr ⟨rfl, h⟩)))
    · exact .inr (.inr (List.cons_lt_cons_iff.mpr (.inl h)))
theorem irr_P : ∀ (a : List (List Int)), ¬ a < a
  | [], h => by cases h
  | x :: a, h => by
    rcases List.cons_lt_cons_iff.mp h with h | h
    · exact row_irrefl x h
    · exact irr_P a h.2
theorem trans_P : ∀ {a b c : List (List Int)}, a < b → b < c → a < c
  | _, [], _, h, _ => absurd h (List.not_lt_nil _)
  | _, _ :: _, [], _, h => absurd h (List.not_lt_nil _)
  | [], _ :: _, _ :: _, _, _ => List.nil_lt_cons _ _
  | x :: a, y :: b, z :: c, h, k => by
    have h' := List.cons_lt_cons_iff.mp h
    have k' := List.cons_lt_cons_iff.mp k
    refine List.cons_lt_cons_iff.mpr ?_
    rcases h' with h1 | ⟨h1, h2⟩
    · rcases k' with k1 | ⟨k1, k2⟩
      · exact .inl (row_trans h1 k1)
      · exact .inl (k1 ▸ h1)
    · rcases k' with k1 | ⟨k1, k2⟩
      · exact .inl (h1 ▸ k1)
      · exact .inr ⟨h1.trans k1, trans_P h2 k2⟩
theorem deep_P (p : List (List Int)) : (pdP p).depth ≤ 50 := by
  have := deep_rows (rs := p)
  simp [pdP, PyData.depth]
  omega
theorem alike_rows : ∀ (a b : List (List Int)), PySem.W.alikeAll (a.map pd) (b.map pd) = true
  | [], _ => by simp [PySem.W.alikeAll]
  | _ :: _, [] => by simp [PySem.W.alikeAll]
  | x :: a, y :: b => by simp [PySem.W.alikeAll, alike_row, alike_rows a b]
theorem ordP : OrdD tupR pdP (fun a b : List (List Int) => a < b) := ⟨fun φ a => by simp [tupR, D.py, pys_rows, pdP], fun a b => by simp [pdP, PySem.W.alike, alike_rows], deep_P, fun a b => by
  have e : PySem.W.dataLt (pdP a) (pdP b) = decide (a < b) := toks_ltP a b
  rw [e]; simp, irr_P, tri_P⟩
theorem parts_one {a b : List (List (List Int))} (ha : a.Pairwise (· < ·)) (hb : b.Pairwise (· < ·)) (h : ∀ p, p ∈ a ↔ p ∈ b) : a = b := strict_one irr_P trans_P ha hb h
end DL.Row
set_option Elab.async false
set_option linter.all false
set_option maxRecDepth 100000
set_option maxHeartbeats 4000000
namespace DL.Row
open PySem PySem.Spec PyProof.Rows L2 DL

/-! ## rows over few signs: no two hash alike -/
def tuplesOver (A : List Int) : Nat → List (List Int)
  | 0 => [[]]
  | n + 1 => (tuplesOver A n).flatMap fun r => A.map fun a => a :: r
theorem mem_over {A : List Int} : ∀ {n : Nat} {r : List Int}, r.length = n → (∀ x ∈ r, x ∈ A) → r ∈ tuplesOver A n
  | 0, r, h, _ => by
    rw [List.length_eq_zero_iff] at h
    subst h
    simp [tuplesOver]
  | n + 1, [], h, _ => by cases h
  | n + 1, x :: r, h, hx => by
    simp only [tuplesOver, List.mem_flatMap, List.mem_map]
    exact ⟨r, mem_over (by simpa using h) (fun y hy => hx y (by simp [hy])), x, hx x (by simp), rfl⟩
def hk (r : List Int) : Nat := (hash0 (kI r) % 18446744073709551616).toNat
def bitOf (d x : Nat) : Bool := Nat.beq (x / d % 2) 0
/-- all apart: split by one binary digit after the other -/
def apart : Nat → Nat → List Nat → Bool
  | _, _, [] => true
  | _, _, [_] => true
  | 0, _, _ => false
  | k + 1, d, xs => apart k (2 * d) (xs.filter (bitOf d)) && apart k (2 * d) (xs.filter fun x => !bitOf d x)
theorem nodup_two {p : Nat → Bool} : ∀ {ns : List Nat}, (ns.filter p).Nodup → (ns.filter fun x => !p x).Nodup → ns.Nodup
  | [], _, _ => List.nodup_nil
  | x :: ns, h1, h2 => by
    rw [List.nodup_cons]
    rw [List.filter_cons] at h1 h2
    cases c : p x with
    | true =>
      simp only [c, if_true, Bool.not_true, Bool.false_eq_true, if_false] at h1 h2
      rw [List.nodup_cons] at h1
      exact ⟨fun hx => h1.1 (List.mem_filter.mpr ⟨hx, c⟩), nodup_two h1.2 h2⟩
    | false =>
      simp only [c, if_true, Bool.not_false, Bool.false_eq_true, if_false] at h1 h2
      rw [List.nodup_cons] at h2
      exact ⟨fun hx => h2.1 (List.mem_filter.mpr ⟨hx, by simp [c]⟩), nodup_two h1 h2.2⟩
theorem apart_inj {α : Type} {f : α → Nat} : ∀ (k d : Nat) (xs : List α), apart k d (xs.map f) = true → ∀ (i j : Nat), i < j → ∀ (x y : α), xs[i]? = some x → xs[j]? = some y → f x ≠ f y := by
  have key : ∀ (k d : Nat) (ns : List Nat), apart k d ns = true → ns.Nodup := by
    intro k
    induction k with
    | zero =>
      intro d ns h
      match ns, h with
      | [], _ => exact List.nodup_nil
      | [_], _ => simp
      | _ :: _ :: _, h => simp [apart] at h
    | succ k ih =>
      intro d ns h
      match ns, h with
      | [], _ => exact List.nodup_nil
      | [_], _ => simp
      | a :: b :: r, h =>
        have h : (apart k (2 * d) ((a :: b :: r).filter (bitOf d)) && apart k (2 * d) ((a :: b :: r).filter fun x => !bitOf d x)) = true := h
        rw [Bool.and_eq_true] at h
        have h1 := ih _ _ h.1
        have h2 := ih _ _ h.2
        exact nodup_two (p := bitOf d) h1 h2
  intro k d xs h i j hij x y hx hy e
  have n := key k d _ h
  have li := (List.getElem?_eq_some_iff.mp hx).1
  have := (List.getElem?_inj (i := i) (j := j) (by simpa using li) n).mp (by rw [List.getElem?_map, List.getElem?_map, hx, hy]; simp [e])
  omega
theorem hk_inj {A : List Int} {n k d : Nat} (h : apart k d ((tuplesOver A n).map hk) = true) {a b : List Int} (ha : a ∈ tuplesOver A n) (hb : b ∈ tuplesOver A n) (e : hash0 (kI a) = hash0 (kI b)) : a = b := by
  have e2 : hk a = hk b := by unfold hk; rw [e]
  obtain ⟨i, hi⟩ := List.mem_iff_getElem?.mp ha
  obtain ⟨j, hj⟩ := List.mem_iff_getElem?.mp hb
  rcases Nat.lt_trichotomy i j with c | c | c
  · exact absurd e2 (apart_inj k d _ h i j c a b hi hj)
  · subst c
    rw [hi] at hj
    exact Option.some.inj hj
  · exact absurd e2.symm (apart_inj k d _ h j i c b a hj hi)
theorem ap_a3 : apart 40 1 ((tuplesOver [0, 1, 2, 3] 3).map hk) = true := by decide +kernel
theorem ap_a4 : apart 40 1 ((tuplesOver [0, 1, 2, 3] 4).map hk) = true := by decide +kernel
theorem ap_a5 : apart 40 1 ((tuplesOver [0, 1, 2, 3] 5).map hk) = true := by decide +kernel
theorem ap_b3 : apart 40 1 ((tuplesOver [-100000000000000000000000000000, 0, 7, 100000000000000000000000000000] 3).map hk) = true := by decide +kernel
theorem ap_b4 : apart 40 1 ((tuplesOver [-100000000000000000000000000000, 0, 7, 100000000000000000000000000000] 4).map hk) = true := by decide +kernel
theorem ap_b5 : apart 40 1 ((tuplesOver [-100000000000000000000000000000, 0, 7, 100000000000000000000000000000] 5).map hk) = true := by decide +kernel
theorem ap_c3 : apart 40 1 ((tuplesOver [9999, 3, 10000, -1] 3).map hk) = true := by decide +kernel
theorem ap_c4 : apart 40 1 ((tuplesOver [9999, 3, 10000, -1] 4).map hk) = true := by decide +kernel
theorem ap_c5 : apart 40 1 ((tuplesOver [9999, 3, 10000, -1] 5).map hk) = true := by decide +kernel
end DL.Row
set_option Elab.async false
set_option linter.all false
set_option maxRecDepth 100000
set_option maxHeartbeats 4000000
namespace DL.Row
open PySem PySem.Spec PyProof.Rows L2 DL

/-! ## raw_parts -/
noncomputable def b_raw_parts : Ev → S := (seqS (asgS (.one 1) (callF 1 r_rows_by_rests (consM (varD 0) (fun _ => M.pure []))))
  (seqS (asgS (.one 2) nilDict)
  (seqS (asgS (.one 3) (lstM (fun _ => M.pure [])))
  (seqS (loopS (.one 4) (seqM (varD 0))
  (seqS (ifS (asTest (op2 (cmpD .NotIn) (varD 4) (varD 2)))
  (seqS (asgS (.one 5) (callF 2 r_steps_from (consM (varD 1) (consM (varD 4) (fun _ => M.pure [])))))
  (seqS (dropS (methM "dict" updD (varD 2) (consM (varD 5) (fun _ => M.pure []))))
  (seqS (dropS (methM "list" appendD (varD 3) (consM (callM tupleD (consM (callM sortD (consM (varD 5) (fun _ => M.pure []))) (fun _ => M.pure []))) (fun _ => M.pure []))))
  nextS)))
  nextS)
  nextS))
  (seqS (retS (varD 3))
  nextS)))))
noncomputable def r_raw_parts : List D → M D := runB 6 b_raw_parts
def Comp (rs : List (List Int)) (r s : List Int) : Prop := ∃ n, Wlk rs r s n
theorem Wlk.right {rs : List (List Int)} {a b : List Int} {n : Nat} (w : Wlk rs a b n) : b ∈ rs := by
  cases w with
  | nil h => exact h
  | snoc _ _ h _ => exact h
theorem Wlk.trans {rs : List (List Int)} {a b c : List Int} {n m : Nat} (w : Wlk rs a b n) (v : Wlk rs b c m) : ∃ k, Wlk rs a c k := by
  induction v with
  | nil _ => exact ⟨n, w⟩
  | snoc _ hb hc hn ih =>
    obtain ⟨k, q⟩ := ih
    exact ⟨k + 1, q.snoc hb hc hn⟩
section
variable {many : Nat} {rs : List (List Int)} {o r s t : List Int}
theorem Comp.refl (h : r ∈ rs) : Comp rs r r := ⟨0, .nil h⟩
theorem Comp.symm (hL : ∀ r ∈ rs, r.length = many) (h : Comp rs r s) : Comp rs s r := let ⟨n, w⟩ := h; ⟨n, w.symm hL⟩
theorem Comp.trans (h : Comp rs r s) (k : Comp rs s t) : Comp rs r t := let ⟨_, w⟩ := h; let ⟨_, v⟩ := k; w.trans v
theorem Comp.right (h : Comp rs r s) : s ∈ rs := let ⟨_, w⟩ := h; w.right
theorem Comp.near (h : Comp rs r s) (ht : t ∈ rs) (n : nr s t) : Comp rs r t := let ⟨_, w⟩ := h; ⟨_, w.snoc w.right ht n⟩
theorem far_comp {F : List Int → Option Nat} (f : Far rs o F) : (∃ n, F r = some n) ↔ Comp rs o r := by
  constructor
  · rintro ⟨n, e⟩
    exact ⟨n, f.walk n r e⟩
  · rintro ⟨n, w⟩
    obtain ⟨k, e, _⟩ := f.of_walk w f.base
    exact ⟨k, e⟩
/-- the parts of a lot -/
structure IsParts (rs : List (List Int)) (ps : List (List (List Int))) : Prop where
  up : ps.Pairwise (· < ·)
  ne : ∀ p ∈ ps, p ≠ []
  srt : ∀ p ∈ ps, p.Pairwise (· < ·)
  mem : ∀ p ∈ ps, ∀ r ∈ p, ∀ s, s ∈ p ↔ Comp rs r s
  sub : ∀ p ∈ ps, ∀ r ∈ p, r ∈ rs
  all_ : ∀ r ∈ rs, ∃ p ∈ ps, r ∈ p
theorem parts_sub {a b : List (List (List Int))} (A : IsParts rs a) (B : IsParts rs b) {p : List (List Int)} (h : p ∈ a) : p ∈ b := by
  obtain ⟨r, hr⟩ : ∃ r, r ∈ p := by
    cases p with
    | nil => exact absurd rfl (A.ne _ h)
    | cons x _ => exact ⟨x, by simp⟩
  obtain ⟨p', h1, h2⟩ := B.all_ r (A.sub p h r hr)
  have e : p = p' := rows_one (A.srt p h) (B.srt p' h1) fun k => by rw [A.mem p h r hr, B.mem p' h1 r h2]
  rw [e]
  exact h1
theorem IsParts.one {a b : List (List (List Int))} (A : IsParts rs a) (B : IsParts rs b) : a = b := parts_one A.up B.up fun p => ⟨parts_sub A B, parts_sub B A⟩
/-! dict work -/
theorem putAll_new : ∀ {fs F : List Stp}, (fs.map (·.1)).Nodup → (∀ p ∈ fs, ∀ q ∈ F, q.1 ≠ p.1) → putAllN (fD F) (fD fs) = fD (F ++ fs)
  | [], F, _, _ => by simp [putAllN, fD]
  | p :: fs, F, hn, h => by
    rw [List.map_cons, List.nodup_cons] at hn
    have e0 : look F p.1 = none := by
      unfold look
      rw [Option.map_eq_none_iff, List.find?_eq_none]
      intro q hq
      simpa using h p (by simp) q hq
    have e1 : putN (fD F) (kI p.1) (tupI p.1) (.int (p.2 : Nat)) = fD (F ++ [p]) := by
      unfold putN
      rw [fD_find, e0]
      simp [fD]
    have ih := putAll_new (fs := fs) (F := F ++ [p]) hn.2 fun q hq t ht => by
      rcases List.mem_append.mp ht with ht | ht
      · exact h q (by simp [hq]) t ht
      · rw [List.mem_singleton.mp ht]
        exact fun e => hn.1 (by rw [e]; exact List.mem_map_of_mem hq)
    unfold putAllN at ih ⊢
    have e2 : fD (p :: fs) = (tupI p.1, .int (p.2 : Nat)) :: fD fs := rfl
    rw [e2, List.foldl_cons]
    simp only [nkD_row]
    rw [e1, ih, List.append_assoc]
    rfl
theorem hashes_fD {fs : List Stp} : hashesN (fD fs) = fs.map fun p => some (hash0 (kI p.1)) := by
  unfold hashesN fD
  rw [List.map_map]
  refine List.map_congr_left fun p _ => ?_
  simp [nkD_row]
theorem hashes_apart {fs : List Stp} (hn : (fs.map (·.1)).Nodup) (hi : ∀ p ∈ fs, p.1 ∈ rs) (hh : ∀ a ∈ rs, ∀ b ∈ rs, hash0 (kI a) = hash0 (kI b) → a = b) : (hashesN (fD fs)).Nodup := by
  rw [hashes_fD]
  induction fs with
  | nil => exact List.nodup_nil
  | cons p fs ih =>
    rw [List.map_cons, List.nodup_cons] at hn ⊢
    refine ⟨fun hm => ?_, ih hn.2 fun q hq => hi q (by simp [hq])⟩
    obtain ⟨q, hq, e⟩ := List.mem_map.mp hm
    have := hh _ (hi q (by simp [hq])) _ (hi p (by simp)) (Option.some.inj e)
    exact hn.1 (by rw [← this]; exact List.mem_map_of_mem hq)
theorem wp_update_at {h : Hs} {n k : Nat} {kvs more : List (D × D)} {Q : D → Hs → Prop} (hc : DAt h n kvs) (hk : cell h k = some (.dcn more)) (ne : n ≠ k) (hz : kvs.length + more.length ≤ 1000) (ha : kvs ≠ [] ∨ (hashesN more).Nodup) (q : Q .non (h.set n (.dcn (putAllN kvs more)))) : Wp (updD (.loc n) [.loc k] h) Q := by
  have z := small1000 hz
  rcases hc with hc | ⟨rfl, hc⟩
  · rw [← cell_eq] at hc hk
    unfold updD
    simp only [hc, hk]
    rw [if_pos ⟨ne, by omega, ha⟩]
    exact q
  · rw [← cell_eq] at hc hk
    unfold updD
    simp only [hc, hk]
    rw [if_pos ⟨ne, by simp at z; omega, ha.resolve_left fun h => h rfl⟩]
    exact q
/-! the loop -/
structure RP (many : Nat) (rs : List (List Int)) (gs0 gs : List Grp) (F : List Stp) (ps : List (List (List Int))) (i : Nat) : Prop where
  nodup : (F.map (·.1)).Nodup
  inl : ∀ p ∈ F, p.1 ∈ rs
  known : ∀ r, (∃ p ∈ F, p.1 = r) ↔ ∃ p ∈ ps, r ∈ p
  sub : ∀ g ∈ gs, g ∈ gs0
  free : ∀ r ∈ rs, (∀ p ∈ F, p.1 ≠ r) → ∀ j, j < many → ∃ g ∈ gs, g.1 = (j, rest r j)
  up : ps.Pairwise (· < ·)
  head : ∀ p ∈ ps, ∃ a t, p = a :: t ∧ a ∈ rs.take i
  srt : ∀ p ∈ ps, p.Pairwise (· < ·)
  mem : ∀ p ∈ ps, ∀ r ∈ p, ∀ s, s ∈ p ↔ Comp rs r s
  all_ : ∀ r ∈ rs.take i, ∃ p ∈ ps, r ∈ p
theorem RP.skip {gs0 gs : List Grp} {F : List Stp} {ps : List (List (List Int))} {i : Nat} (R : RP many rs gs0 gs F ps i) (hr : rs[i]? = some r) (hk : ∃ p ∈ F, p.1 = r) : RP many rs gs0 gs F ps (i + 1) := by
  refine ⟨R.nodup, R.inl, R.known, R.sub, R.free, R.up, fun p hp => ?_, R.srt, R.mem, fun t ht => ?_⟩
  · obtain ⟨a, q, e, h⟩ := R.head p hp
    exact ⟨a, q, e, by rw [List.take_succ]; exact List.mem_append_left _ h⟩
  · rw [List.take_succ, hr] at ht
    rcases List.mem_append.mp ht with h | h
    · exact R.all_ t h
    · simp at h
      rw [h]
      exact (R.known r).mp hk
theorem RP.next {gs0 gs gs' : List Grp} {F fs : List Stp} {ps : List (List (List Int))} {ys : List (List Int)} {i : Nat} (L : Lot many rs) (R : RP many rs gs0 gs F ps i) (hr : rs[i]? = some r) (hk : ∀ p ∈ F, p.1 ≠ r) (nd : (fs.map (·.1)).Nodup) (f : Far rs r (look fs)) (sub : ∀ g ∈ gs', g ∈ gs) (kp : ∀ g ∈ gs, g ∈ gs' ∨ ∃ p ∈ fs, rest p.1 g.1.1 = g.1.2)
    (pm : ys.Perm (fs.map (·.1))) (up : ys.Pairwise (· < ·)) : (∀ p ∈ fs, ∀ q ∈ F, q.1 ≠ p.1) ∧ RP many rs gs0 gs' (F ++ fs) (ps ++ [ys]) (i + 1) := by
  have rr := List.mem_of_getElem? hr
  have inF : ∀ t, (∃ p ∈ fs, p.1 = t) ↔ Comp rs r t := fun t => by
    rw [← far_comp f]
    constructor
    · rintro ⟨p, hp, rfl⟩
      exact ⟨p.2, (look_some nd).mpr hp⟩
    · rintro ⟨n, e⟩
      exact ⟨_, (look_some nd).mp e, rfl⟩
  have inY : ∀ t, t ∈ ys ↔ Comp rs r t := fun t => by rw [← inF, pm.mem_iff, List.mem_map]
  have old : ∀ t, Comp rs r t → ∀ q ∈ F, q.1 ≠ t := fun t ht q hq e => by
    obtain ⟨p, h1, h2⟩ := (R.known t).mp ⟨q, hq, e⟩
    have := (R.mem p h1 t h2 r).mpr (ht.symm L.len)
    obtain ⟨q', h3, h4⟩ := (R.known r).mpr ⟨p, h1, this⟩
    exact hk q' h3 h4
  have ry : r ∈ ys := (inY r).mpr (.refl rr)
  have il := (List.getElem?_eq_some_iff.mp hr).1
  have tk : rs.take (i + 1) = rs.take i ++ [r] := by rw [List.take_succ, hr]; rfl
  obtain ⟨hd, tl, ey⟩ : ∃ a t, ys = a :: t := by
    cases ys with
    | nil => cases ry
    | cons a t => exact ⟨a, t, rfl⟩
  have hmin : hd = r := by
    rw [ey] at ry up
    rcases List.mem_cons.mp ry with h | h
    · exact h.symm
    · have hlt : hd < r := (List.pairwise_cons.mp up).1 r h
      have hc : Comp rs r hd := (inY hd).mp (by rw [ey]; simp)
      exfalso
      obtain ⟨j, hj⟩ := List.mem_iff_getElem?.mp hc.right
      have jl := (List.getElem?_eq_some_iff.mp hj).1
      have e1 : rs[j] = hd := Option.some.inj ((List.getElem?_eq_getElem jl).symm.trans hj)
      have e2 : rs[i] = r := Option.some.inj ((List.getElem?_eq_getElem il).symm.trans hr)
      have ji : j < i := by
        rcases Nat.lt_trichotomy j i with c | c | c
        · exact c
        · subst c
          rw [e1] at e2
          rw [e2] at hlt
          exact absurd hlt (row_irrefl _)
        · have := List.pairwise_iff_getElem.mp L.up i j il jl c
          rw [e1, e2] at this
          exact absurd hlt (row_asymm this)
      have hm : hd ∈ rs.take i := List.mem_iff_getElem?.mpr ⟨j, by rw [List.getElem?_take, if_pos ji]; exact hj⟩
      obtain ⟨p, h1, h2⟩ := R.all_ hd hm
      obtain ⟨q, h3, h4⟩ := (R.known hd).mpr ⟨p, h1, h2⟩
      exact old hd hc q h3 h4
  have disj : ∀ p ∈ fs, ∀ q ∈ F, q.1 ≠ p.1 := fun p hp q hq => old p.1 ((inF p.1).mp ⟨p, hp, rfl⟩) q hq
  refine ⟨disj, ?_, fun p hp => ?_, fun t => ?_, fun g hg => R.sub g (sub g hg), fun t ht hn j hj => ?_, ?_, fun p hp => ?_, fun p hp => ?_, fun p hp => ?_, fun t ht => ?_⟩
  · rw [List.map_append, List.nodup_append]
    refine ⟨R.nodup, nd, fun a ha b hb e => ?_⟩
    obtain ⟨q, hq, rfl⟩ := List.mem_map.mp ha
    obtain ⟨p, hp, rfl⟩ := List.mem_map.mp hb
    exact disj p hp q hq e
  · rcases List.mem_append.mp hp with h | h
    · exact R.inl p h
    · exact ((inF p.1).mp ⟨p, h, rfl⟩).right
  · constructor
    · rintro ⟨p, hp, rfl⟩
      rcases List.mem_append.mp hp with h | h
      · obtain ⟨q, h1, h2⟩ := (R.known p.1).mp ⟨p, h, rfl⟩
        exact ⟨q, List.mem_append_left _ h1, h2⟩
      · exact ⟨ys, by simp, (inY p.1).mpr ((inF p.1).mp ⟨p, h, rfl⟩)⟩
    · rintro ⟨p, hp, h⟩
      rcases List.mem_append.mp hp with h1 | h1
      · obtain ⟨q, h2, h3⟩ := (R.known t).mpr ⟨p, h1, h⟩
        exact ⟨q, List.mem_append_left _ h2, h3⟩
      · rw [List.mem_singleton.mp h1] at h
        obtain ⟨q, h2, h3⟩ := (inF t).mpr ((inY t).mp h)
        exact ⟨q, List.mem_append_right _ h2, h3⟩
  · obtain ⟨g, h1, h2⟩ := R.free t ht (fun p hp => hn p (List.mem_append_left _ hp)) j hj
    rcases kp g h1 with h | ⟨p, h3, h4⟩
    · exact ⟨g, h, h2⟩
    · rw [h2] at h4
      have h4 : rest p.1 j = rest t j := h4
      have cp := (inF p.1).mp ⟨p, h3, rfl⟩
      have ct : Comp rs r t := by
        by_cases c : p.1 = t
        · rw [← c]; exact cp
        · exact cp.near ht ⟨c, j, by rw [L.len p.1 cp.right]; exact hj, h4⟩
      obtain ⟨q, h5, h6⟩ := (inF t).mpr ct
      exact absurd h6 (hn q (List.mem_append_right _ h5))
  · refine List.pairwise_append.mpr ⟨R.up, by simp, fun a ha b hb => ?_⟩
    rw [List.mem_singleton.mp hb, ey]
    obtain ⟨x, q, rfl, hx⟩ := R.head a ha
    refine List.cons_lt_cons_iff.mpr (.inl ?_)
    rw [hmin]
    obtain ⟨j, hj⟩ := List.mem_iff_getElem?.mp hx
    rw [List.getElem?_take] at hj
    split at hj
    · rename_i ji
      have jl := (List.getElem?_eq_some_iff.mp hj).1
      have := List.pairwise_iff_getElem.mp L.up j i jl il ji
      rw [Option.some.inj ((List.getElem?_eq_getElem jl).symm.trans hj), Option.some.inj ((List.getElem?_eq_getElem il).symm.trans hr)] at this
      exact this
    · cases hj
  · rcases List.mem_append.mp hp with h | h
    · obtain ⟨a, q, e, h2⟩ := R.head p h
      exact ⟨a, q, e, by rw [tk]; exact List.mem_append_left _ h2⟩
    · rw [List.mem_singleton.mp h]
      exact ⟨hd, tl, ey, by rw [hmin, tk]; simp⟩
  · rcases List.mem_append.mp hp with h | h
    · exact R.srt p h
    · rw [List.mem_singleton.mp h]; exact up
  · rcases List.mem_append.mp hp with h | h
    · exact R.mem p h
    · rw [List.mem_singleton.mp h]
      intro a ha b
      have ca := (inY a).mp ha
      rw [inY]
      exact ⟨fun cb => (ca.symm L.len).trans cb, fun cb => ca.trans cb⟩
  · rw [tk] at ht
    rcases List.mem_append.mp ht with h | h
    · obtain ⟨p, h1, h2⟩ := R.all_ t h
      exact ⟨p, List.mem_append_left _ h1, h2⟩
    · rw [List.mem_singleton.mp h]
      exact ⟨ys, by simp, ry⟩
theorem RP.done {gs0 gs : List Grp} {F : List Stp} {ps : List (List (List Int))} (R : RP many rs gs0 gs F ps rs.length) : IsParts rs ps := by
  refine ⟨R.up, fun p hp e => ?_, R.srt, R.mem, fun p hp r hr => ((R.mem p hp r hr r).mp hr).right, fun r hr => R.all_ r (by rw [List.take_length]; exact hr)⟩
  obtain ⟨a, t, e2, _⟩ := R.head p hp
  rw [e] at e2
  cases e2
end
end DL.Row
set_option Elab.async false
set_option linter.all false
set_option maxRecDepth 100000
set_option maxHeartbeats 4000000
namespace DL.Row
open PySem PySem.Spec PyProof.Rows L2 DL

section
variable {many lo n kn fd : Nat} {rs : List (List Int)} {r : List Int} {gs0 : List Grp} {hs h : Hs}
theorem gskip {a b c : Hs} {S : List Nat} (g : Gr [] a b) (k : Gr S b c) (h : ∀ n ∈ S, a.length ≤ n) : Gr [] a c :=
  ⟨Nat.le_trans g.le k.le, fun j hj _ => by
    rw [k.at_ j (Nat.lt_of_lt_of_le hj g.le) (fun q => Nat.not_le_of_lt hj (h j q)), g.at_ j hj (by simp)]⟩
def RPI (many lo n kn fd : Nat) (rs : List (List Int)) (gs0 : List Grp) (hs : Hs) (i : Nat) (e : Ev) (h : Hs) : Prop := ∃ (x4 x5 : Option D) (gs : List Grp) (F : List Stp) (ps : List (List (List Int))), e = [some (tupR rs), some (.loc n), some (.loc kn), some (.loc fd), x4, x5] ∧ RP many rs gs0 gs F ps i ∧ GH lo n gs h ∧ DAt h kn (fD F) ∧ cell h fd = some (.lst (ps.map tupR)) ∧ Gr [] hs h ∧ ps.length ≤ i
theorem part_turn {i : Nat} {gs : List Grp} {F : List Stp} {ps : List (List (List Int))} {x5 : Option D} (L : Lot many rs) (hf : rs.length ≤ 100) (hh : ∀ a ∈ rs, ∀ b ∈ rs, hash0 (kI a) = hash0 (kI b) → a = b) (M0 : GM (prs rs) gs0) (hr : rs[i]? = some r) (R : RP many rs gs0 gs F ps i) (H : GH lo n gs h) (D1 : DAt h kn (fD F)) (C1 : cell h fd = some (.lst (ps.map tupR))) (nk : n < kn) (kf : kn < fd) (hn : hs.length ≤ n) (gk : ∀ g ∈ gs0, g.2.1 < kn) (G : Gr [] hs h) (pl : ps.length ≤ i) :
    Wp ((seqS (ifS (asTest (op2 (cmpD .NotIn) (varD 4) (varD 2)))
  (seqS (asgS (.one 5) (callF 2 r_steps_from (consM (varD 1) (consM (varD 4) (fun _ => M.pure [])))))
  (seqS (dropS (methM "dict" updD (varD 2) (consM (varD 5) (fun _ => M.pure []))))
  (seqS (dropS (methM "list" appendD (varD 3) (consM (callM tupleD (consM (callM sortD (consM (varD 5) (fun _ => M.pure []))) (fun _ => M.pure []))) (fun _ => M.pure []))))
  nextS)))
  nextS)
  nextS) [some (tupR rs), some (.loc n), some (.loc kn), some (.loc fd), some (tupI r), x5] h) fun r' h' => ∃ e, r' = .nx e ∧ RPI many lo n kn fd rs gs0 hs (i + 1) e h' := by
  have rr := List.mem_of_getElem? hr
  have il := (List.getElem?_eq_some_iff.mp hr).1
  have Fl : F.length ≤ rs.length := by
    have := nodup_sub (b := rs) R.nodup fun x hx => by
      obtain ⟨p, hp, rfl⟩ := List.mem_map.mp hx
      exact R.inl p hp
    simpa using this
  simp [-wp_cmpNotIn]
  rw [wp_notIn_at (key_row r) D1, fD_find]
  cases e : look F r with
  | some k =>
    simp
    exact ⟨_, _, gs, F, ps, rfl, R.skip hr ⟨_, (look_some R.nodup).mp e, rfl⟩, H, D1, C1, G, by omega⟩
  | none =>
    have hk := look_none e
    simp
    have t := steps_gen (Z := Comp rs r) (Q := okq fun d h1 => ∃ m fs gs', d = .loc m ∧ h.length ≤ m ∧ cell h1 m = some (.dcn (fD fs)) ∧ (fs.map (·.1)).Nodup ∧ Far rs r (look fs) ∧ (∀ g ∈ gs', g ∈ gs) ∧ GH lo n gs' h1 ∧ (∀ g ∈ gs, g ∈ gs' ∨ ∃ p ∈ fs, rest p.1 g.1.1 = g.1.2) ∧ Gr [n] h h1)
      (fun a ha ca b hb j hj er => by
        by_cases c : a = b
        · rw [← c]; exact ca
        · exact ca.near hb ⟨c, j, by rw [L.len a ha]; exact hj, er.symm⟩) (Comp.refl rr) L.len L.hi hf rr H (fun g hg s => M0.mem g (R.sub g hg) s)
      (fun s hs cs j hj => R.free s hs (fun p hp es => by
        obtain ⟨q, h1, h2⟩ := (R.known s).mp ⟨p, hp, es⟩
        obtain ⟨p', h3, h4⟩ := (R.known r).mpr ⟨q, h1, (R.mem q h1 s h2 r).mpr (cs.symm L.len)⟩
        exact hk p' h3 h4) j hj) fun m fs gs' h1 a1 a2 a3 a4 a5 a6 a7 a8 => ⟨m, fs, gs', rfl, a1, a2, a3, a4, a5, a6, a7, a8⟩
    refine t.mono ?_
    clear t
    rintro (_ | _) h1 qq
    · exact qq.elim
    obtain ⟨m, fs, gs', rfl, hm, cm, nd, f, sub, H1, kp, G1⟩ := qq
    have fin : ∀ p ∈ fs, p.1 ∈ rs := fun p hp => f.inl p.1 p.2 ((look_some nd).mpr hp)
    have fl : fs.length ≤ rs.length := by
      have := nodup_sub (b := rs) nd fun x hx => by
        obtain ⟨p, hp, rfl⟩ := List.mem_map.mp hx
        exact fin p hp
      simpa using this
    have kl := D1.lt
    have ll := cell_lt C1
    have D2 := D1.gr G1 (by simp; omega)
    have C2 := G1.get C1 (by simp; omega)
    have ml := cell_lt cm
    have disj : ∀ p ∈ fs, ∀ q ∈ F, q.1 ≠ p.1 := fun p hp q hq es => by
      obtain ⟨u, h1, h2⟩ := (R.known q.1).mp ⟨q, hq, rfl⟩
      have cp : Comp rs r p.1 := (far_comp f).mp ⟨p.2, (look_some nd).mpr hp⟩
      rw [es] at h2
      obtain ⟨p', h3, h4⟩ := (R.known r).mpr ⟨u, h1, (R.mem u h1 p.1 h2 r).mpr (cp.symm L.len)⟩
      exact hk p' h3 h4
    simp
    rw [wp_chk_at D2]
    simp
    refine wp_update_at D2 cm (by omega) (by rw [fD_len, fD_len]; omega) (.inr (hashes_apart nd fin hh)) ?_
    rw [putAll_new nd disj]
    have c3 : cell (h1.set kn (.dcn (fD (F ++ fs)))) m = some (.dcn (fD fs)) := by rw [cell_set_ne (by omega)]; exact cm
    have C3 : cell (h1.set kn (.dcn (fD (F ++ fs)))) fd = some (.lst (ps.map tupR)) := by rw [cell_set_ne (by omega)]; exact C2
    have D3 : DAt (h1.set kn (.dcn (fD (F ++ fs)))) kn (fD (F ++ fs)) := .inl (cell_set_self D2.lt)
    have H3 : GH lo n gs' (h1.set kn (.dcn (fD (F ++ fs)))) := H1.gr (Gr.set (S := [kn]) (by simp)) fun k hk' => by
      rw [List.mem_singleton.mp hk']
      exact ⟨by omega, fun g hg => by have := gk g (R.sub g (sub g hg)); omega⟩
    have G3 : Gr [n, kn] h (h1.set kn (.dcn (fD (F ++ fs)))) := (G1.mono (by simp)).trans (.set (by simp))
    have l3 : (h1.set kn (O.dcn (fD (F ++ fs)))).length = h1.length := by simp
    generalize h1.set kn (.dcn (fD (F ++ fs))) = h3 at *
    simp [C3]
    have it : itemsD h3 (.loc m) = some ((fs.map (·.1)).map tupI) := by
      rw [← cell_eq] at c3
      unfold itemsD
      simp only [c3]
      simp [fD]
    refine wp_sort ordR it (fun x hx => ?_) fun ys pm srt => ?_
    · obtain ⟨p, hp, rfl⟩ := List.mem_map.mp hx
      have l1 := L.len _ (fin p hp)
      have l2 := L.lo
      obtain ⟨a, b, e⟩ : ∃ a b, p.1 = a :: b := by
        cases hp1 : p.1 with
        | nil => rw [hp1] at l1; simp at l1; omega
        | cons a b => exact ⟨a, b, rfl⟩
      rw [e]
      rfl
    have up := rising_of ordR pm srt nd
    simp
    have C4 : cell (h3 ++ [O.lst (ys.map tupI)]) fd = some (.lst (ps.map tupR)) := by rw [cell_push_lt (cell_lt C3)]; exact C3
    have D4 := D3.gr (Gr.push (S := []) (o := .lst (ys.map tupI))) (by simp)
    have H4 := H3.gr (Gr.push (S := []) (o := .lst (ys.map tupI))) (by simp)
    have G4 : Gr [n, kn] h (h3 ++ [O.lst (ys.map tupI)]) := G3.trans .push
    generalize h3 ++ [O.lst (ys.map tupI)] = h4 at *
    have N := R.next L hr hk nd f sub kp pm up
    refine ⟨_, C4, small1000 (by simp; omega), ?_⟩
    refine ⟨_, _, gs', F ++ fs, ps ++ [ys], rfl, N.2, ?_, ?_, ?_, ?_, by simp; omega⟩
    · exact H4.gr (Gr.set (S := [fd]) (by simp)) fun k hk' => by
        rw [List.mem_singleton.mp hk']
        exact ⟨by omega, fun g hg => by have := gk g (R.sub g (sub g hg)); omega⟩
    · exact D4.gr (Gr.set (S := [fd]) (by simp)) (by simp; omega)
    · rw [cell_set_self (cell_lt C4)]
      simp [tupR]
    · exact gskip G ((G4.mono (T := [n, kn, fd]) (by simp)).trans (.set (by simp))) (by simp; omega)
theorem raw_parts_ok {Q : Except Ex D → Hs → Prop} (L : Lot many rs) (hf : rs.length ≤ 100) (hh : ∀ a ∈ rs, ∀ b ∈ rs, hash0 (kI a) = hash0 (kI b) → a = b) (q : ∀ l ps h, hs.length ≤ l → cell h l = some (.lst (ps.map tupR)) → IsParts rs ps → Gr [] hs h → Q (.ok (.loc l)) h) : Wp (r_raw_parts [tupR rs] hs) Q := by
  unfold r_raw_parts b_raw_parts
  rw [wp_run]
  simp only [wp_seq]
  simp
  refine rests_ok L hf fun n gs0 ha hn H M0 Ga => ?_
  simp
  have nl := H.dict.lt
  have D0 : DAt (ha ++ [O.dct [], O.lst []]) ha.length (fD []) := .inr ⟨rfl, cell_app (k := 0)⟩
  have C0 : cell (ha ++ [O.dct [], O.lst []]) (ha.length + 1) = some (.lst (([] : List (List (List Int))).map tupR)) := cell_app (k := 1)
  have H0 : GH hs.length n gs0 (ha ++ [O.dct [], O.lst []]) := H.gr (Gr.app (S := [])) (by simp)
  have G0 : Gr [] hs (ha ++ [O.dct [], O.lst []]) := Ga.trans .app
  have gk : ∀ g ∈ gs0, g.2.1 < ha.length := fun g hg => cell_lt (H.cells g hg)
  generalize ha ++ [O.dct [], O.lst []] = hb at *
  have sq : Wp (seqSrc (tupR rs) hb) = Wp (seqSrc (.tup (rs.map tupI)) hb) := rfl
  rw [sq, wp_src_tup]
  simp
  refine wp_for (fun i e h => RPI many hs.length n ha.length (ha.length + 1) rs gs0 hs i e h) ⟨_, _, gs0, [], [], rfl, ⟨by simp, by simp, by simp, fun g h => h, fun s hs _ j hj => M0.all_ (s, j) (mem_prs.mpr ⟨hs, by rw [L.len s hs]; exact hj⟩), by simp, by simp, by simp, by simp, by simp⟩, H0, D0, C0, G0, by simp⟩ ?_ ?_
  · rintro i d e h hi ⟨x4, x5, gs, F, ps, rfl, R, H, D1, C1, G, pl⟩
    obtain ⟨r, hr, rfl⟩ := rows_at hi
    refine ⟨trivial, ?_⟩
    rw [bodyK_one]
    refine (part_turn (x5 := x5) L hf hh M0 hr R H D1 C1 nl (Nat.lt_succ_self _) hn gk G pl).mono ?_
    rintro _ h1 ⟨e, rfl, I⟩
    exact I
  · rintro e h ⟨x4, x5, gs, F, ps, rfl, R, H, D1, C1, G, pl⟩
    refine ⟨trivial, ?_⟩
    rw [List.length_map] at R
    simp
    exact q _ ps h (Nat.le_trans Ga.le (Nat.le_succ _)) C1 R.done G
end
end DL.Row
set_option Elab.async false
set_option linter.all false
set_option maxRecDepth 100000
set_option maxHeartbeats 4000000
namespace DL.Row
open PySem PySem.Spec PyProof.Rows L2 DL

/-! ## _law_near, _law_parts -/
noncomputable def b__law_near : Ev → S := (seqS (retS (op2 (cmpD .Eq) (callM lenD (consM (compM [2] (.one 2) (rngM 1 (consM (callM lenD (consM (varD 0) (fun _ => M.pure []))) (fun _ => M.pure []))) (asTest (op2 (cmpD .NotEq) (op2 ixD (varD 0) (varD 2)) (op2 ixD (varD 1) (varD 2)))) (varD 2)) (fun _ => M.pure []))) (fun _ => M.pure (.int 1))))
  nextS)
noncomputable def r__law_near : List D → M D := runB 3 b__law_near
noncomputable def b__law_parts : Ev → S := (seqS (asgS (.many [1, 2]) (tupM (consM (callM listD (consM (varD 0) (fun _ => M.pure []))) (consM (lstM (fun _ => M.pure [])) (fun _ => M.pure [])))))
  (seqS (whileS (asTest (op2 (cmpD .NotEq) (varD 1) (lstM (fun _ => M.pure []))))
  (seqS (asgS (.many [3, 1, 4]) (tupM (consM (sliceM (varD 1) (fun _ => M.pure none) (fun v => M.bind ((fun _ => M.pure (.int 1)) v) partD)) (consM (sliceM (varD 1) (fun v => M.bind ((fun _ => M.pure (.int 1)) v) partD) (fun _ => M.pure none)) (consM (fun _ => M.pure (.int 0)) (fun _ => M.pure []))))))
  (seqS (whileS (asTest (op2 (cmpD .Lt) (varD 4) (callM lenD (consM (varD 3) (fun _ => M.pure [])))))
  (seqS (asgS (.one 5) (compM [6] (.one 6) (seqM (varD 1)) (truth (callF 2 r__law_near (consM (op2 ixD (varD 3) (varD 4)) (consM (varD 6) (fun _ => M.pure []))))) (varD 6)))
  (seqS (asgS (.one 1) (compM [6] (.one 6) (seqM (varD 1)) (asTest (op2 (cmpD .NotIn) (varD 6) (varD 5))) (varD 6)))
  (seqS (asgS (.many [3, 4]) (tupM (consM (op2 (binD .Add) (varD 3) (varD 5)) (consM (op2 (binD .Add) (varD 4) (fun _ => M.pure (.int 1))) (fun _ => M.pure [])))))
  nextS))))
  (seqS (dropS (methM "list" appendD (varD 2) (consM (callM tupleD (consM (callM sortD (consM (varD 3) (fun _ => M.pure []))) (fun _ => M.pure []))) (fun _ => M.pure []))))
  nextS))))
  (seqS (retS (callM sortD (consM (varD 2) (fun _ => M.pure []))))
  nextS)))
noncomputable def r__law_parts : List D → M D := runB 7 b__law_parts
def dif (a b : List Int) (k : Nat) : Bool := decide (a[k]? ≠ b[k]?)
def difL (a b : List Int) : List Nat := (List.range a.length).filter (dif a b)
theorem one_of {l : List Nat} {i : Nat} (hn : l.Nodup) (h : ∀ k, k ∈ l ↔ k = i) : l.length = 1 := by
  match l, hn, h with
  | [], _, h => exact absurd ((h i).mpr rfl) (by simp)
  | [_], _, _ => rfl
  | a :: b :: r, hn, h =>
    have ha := (h a).mp (by simp)
    have hb := (h b).mp (by simp)
    rw [List.nodup_cons] at hn
    exact absurd (by rw [ha, hb]; simp) hn.1
theorem near_iff {a b : List Int} (hl : a.length = b.length) : (difL a b).length = 1 ↔ nr a b := by
  have mem : ∀ k, k ∈ difL a b ↔ a[k]? ≠ b[k]? := fun k => by
    unfold difL dif
    rw [List.mem_filter, List.mem_range, decide_eq_true_iff]
    refine ⟨fun h => h.2, fun h => ⟨?_, h⟩⟩
    refine Nat.lt_of_not_le fun z => h ?_
    rw [List.getElem?_eq_none z, List.getElem?_eq_none (by omega)]
  constructor
  · intro h
    obtain ⟨i, hi⟩ := List.length_eq_one_iff.mp h
    have hm := (mem i).mp (by rw [hi]; simp)
    have il : i < a.length := by
      refine Nat.lt_of_not_le fun z => hm ?_
      rw [List.getElem?_eq_none z, List.getElem?_eq_none (by omega)]
    refine ⟨fun e => hm (by rw [e]), i, il, (rest_eq il hl).mpr fun j hj => ?_⟩
    refine Classical.byContradiction fun z => hj ?_
    have := (mem j).mpr z
    rw [hi] at this
    exact List.mem_singleton.mp this
  · rintro ⟨h1, i, h2, h3⟩
    have h3 := (rest_eq h2 hl).mp h3
    refine one_of (i := i) (List.Pairwise.filter _ List.nodup_range) fun k => ?_
    rw [mem]
    constructor
    · intro h
      refine Classical.byContradiction fun z => h (h3 k z)
    · rintro rfl e
      refine h1 (List.ext_getElem? fun j => ?_)
      by_cases c : j = k
      · rw [c]; exact e
      · exact h3 j c
def difG (a b : List Int) : D → Option D
  | .int k => if dif a b k.toNat = true then some (.int k) else none
  | _ => none
theorem difG_all {a b : List Int} : (intL 0 a.length).filterMap (difG a b) = (difL a b).map fun (k : Nat) => D.int k := by
  unfold intL difL
  rw [List.filterMap_map]
  induction List.range a.length with
  | nil => rfl
  | cons k l ih =>
    rw [List.filterMap_cons, ih, List.filter_cons]
    simp only [Function.comp, difG, Int.zero_add, Int.toNat_natCast]
    cases dif a b k <;> simp
section
variable {hs : Hs}
noncomputable def nrB (a b : List Int) : Bool := @decide (nr a b) (Classical.propDecidable _)
theorem nrB_iff {a b : List Int} : nrB a b = true ↔ nr a b := by
  unfold nrB
  exact @decide_eq_true_iff _ (Classical.propDecidable _)
theorem near_ok {a b : List Int} {Q : Except Ex D → Hs → Prop} (hl : a.length = b.length) (h5 : a.length ≤ 5) (q : ∀ h, Gr [] hs h → Q (.ok (.bl (nrB a b))) h) : Wp (r__law_near [tupI a, tupI b] hs) Q := by
  unfold r__law_near b__law_near
  simp [-wp_cmpEq]
  rw [tupI_eq a, tupI_eq b]
  simp [-wp_cmpEq]
  refine ⟨by omega, ?_⟩
  refine wp_comp_grow [] (difG a b) (fun _ _ => trivial) (by rw [intL_len]; omega) (fun d h hd g => ?_) fun h g => ?_
  · obtain ⟨j, hj⟩ := List.mem_iff_getElem?.mp hd
    obtain ⟨hjl, rfl⟩ := intL_at hj
    rw [Int.zero_add]
    simp [atI_lit, -wp_cmpNe]
    refine ⟨_, ⟨_, List.getElem?_eq_getElem hjl, rfl⟩, _, ⟨_, List.getElem?_eq_getElem (show j < b.length by omega), rfl⟩, ?_⟩
    simp [difG, dif, List.getElem?_eq_getElem hjl, List.getElem?_eq_getElem (show j < b.length by omega)]
    by_cases c : a[j] = b[j] <;> simp [c] <;> exact .refl
  · rw [difG_all]
    simp
    have e : decide (((difL a b).length : Int) = 1) = nrB a b := by
      rw [Bool.eq_iff_iff, nrB_iff, ← near_iff hl, decide_eq_true_iff]
      omega
    rw [e]
    exact q _ (g.trans .push)
theorem data_rowsL {n : Nat} {rs : List (List Int)} {h : Hs} (hc : cell h n = some (.lst (rs.map tupI))) : (D.loc n).data h = some (.list (rs.map pd)) := by
  rw [← cell_eq] at hc
  unfold D.data
  simp only [D.py, derefs, hc, pys_rows]
  rfl
theorem eq_rowsL {n m : Nat} {rs ts : List (List Int)} {h : Hs} (h1 : cell h n = some (.lst (rs.map tupI))) (h2 : cell h m = some (.lst (ts.map tupI))) : eqD h (.loc n) (.loc m) = some (PyData.eqvAll (rs.map pd) (ts.map pd)) := by
  rw [eqD_of (data_rowsL h1) (data_rowsL h2) (shp_rowsL rs) (shp_rowsL ts)]
  simp [PyData.eqv]
end
end DL.Row
set_option Elab.async false
set_option linter.all false
set_option maxRecDepth 100000
set_option maxHeartbeats 4000000
namespace DL.Row
open PySem PySem.Spec PyProof.Rows L2 DL

def keepG (q : List Int → Bool) (d : D) : Option D := match rowOf d with
  | some r => if q r = true then some d else none
  | none => none
theorem keepG_all (q : List Int → Bool) : ∀ ls : List (List Int), (ls.map tupI).filterMap (keepG q) = (ls.filter q).map tupI
  | [] => rfl
  | t :: ls => by
    rw [List.map_cons, List.filterMap_cons, keepG_all q ls, List.filter_cons]
    simp only [keepG, rowOf_row]
    cases q t <;> simp
def notIn (ms : List (List Int)) (b : List Int) : Bool := !decide (b ∈ ms)
theorem keep_in {ms : List (List Int)} {b : List Int} (h : b ∈ ms) : keepG (notIn ms) (tupI b) = none := by
  have e : notIn ms b = false := by unfold notIn; rw [decide_eq_true h]; rfl
  simp [keepG, rowOf_row, e]
theorem keep_out {ms : List (List Int)} {b : List Int} (h : b ∉ ms) : keepG (notIn ms) (tupI b) = some (tupI b) := by
  have e : notIn ms b = true := by unfold notIn; rw [decide_eq_false h]; rfl
  simp [keepG, rowOf_row, e]
theorem in_rowsL {h : Hs} {n : Nat} {rs : List (List Int)} {r : List Int} (hc : cell h n = some (.lst (rs.map tupI))) : inD h (tupI r) (.loc n) = some (decide (r ∈ rs)) := by
  have e := data_rowsL hc
  unfold inD tupI
  have e2 : D.data h (.tup (r.map .int)) = some (pd r) := data_row r
  simp only [e, e2, shp_row, shp_rowsL]
  rw [any_row]
  rfl
section
variable {many : Nat} {rs : List (List Int)} {r0 : List Int} {P Lf L0 : List (List Int)} {at_ : Nat} {hs h : Hs}
/-! ## a part by its rows -/
structure LP (rs : List (List Int)) (r0 : List Int) (L0 P Lf : List (List Int)) (at_ : Nat) : Prop where
  nodup : P.Nodup
  nodupL : Lf.Nodup
  dis : ∀ a ∈ P, a ∉ Lf
  con : ∀ a ∈ P, Comp rs r0 a
  base : r0 ∈ P
  cov : ∀ a, a ∈ L0 ↔ a ∈ P ∨ a ∈ Lf
  apart : ∀ j, j < at_ → ∀ a, P[j]? = some a → ∀ b ∈ Lf, ¬ nr a b
  le : at_ ≤ P.length
theorem LP.next {a : List Int} (I : LP rs r0 L0 P Lf at_) (h0 : ∀ b ∈ L0, b ∈ rs) (ha : P[at_]? = some a) : LP rs r0 L0 (P ++ Lf.filter (nrB a)) (Lf.filter (notIn (Lf.filter (nrB a)))) (at_ + 1) := by
  have am := List.mem_of_getElem? ha
  have N : ∀ b, b ∈ Lf.filter (nrB a) ↔ b ∈ Lf ∧ nr a b := fun b => by rw [List.mem_filter, nrB_iff]
  have K : ∀ b, b ∈ (Lf.filter (notIn (Lf.filter (nrB a)))) ↔ b ∈ Lf ∧ ¬ nr a b := fun b => by
    rw [List.mem_filter]
    unfold notIn
    refine ⟨fun ⟨h1, h2⟩ => ⟨h1, fun n => ?_⟩, fun ⟨h1, h2⟩ => ⟨h1, ?_⟩⟩
    · have := (N b).mpr ⟨h1, n⟩
      rw [decide_eq_true this] at h2
      cases h2
    · have : b ∉ Lf.filter (nrB a) := fun q => h2 ((N b).mp q).2
      rw [decide_eq_false this]
      rfl
  have al := (List.getElem?_eq_some_iff.mp ha).1
  refine ⟨?_, List.Pairwise.filter _ I.nodupL, fun b hb hc => ?_, fun b hb => ?_, List.mem_append_left _ I.base, fun b => ?_, fun j hj x hx b hb => ?_, by simp; omega⟩
  · rw [List.nodup_append]
    refine ⟨I.nodup, List.Pairwise.filter _ I.nodupL, fun x hx y hy e => ?_⟩
    subst e
    exact I.dis x hx ((N x).mp hy).1
  · rcases List.mem_append.mp hb with h | h
    · exact I.dis b h ((K b).mp hc).1
    · exact ((K b).mp hc).2 ((N b).mp h).2
  · rcases List.mem_append.mp hb with h | h
    · exact I.con b h
    · have := (N b).mp h
      exact (I.con a am).near (h0 b ((I.cov b).mpr (.inr this.1))) this.2
  · rw [I.cov, List.mem_append, N, K]
    constructor
    · rintro (h | h)
      · exact .inl (.inl h)
      · by_cases c : nr a b
        · exact .inl (.inr ⟨h, c⟩)
        · exact .inr ⟨h, c⟩
    · rintro ((h | h) | h)
      · exact .inl h
      · exact .inr h.1
      · exact .inr h.1
  · have hb := (K b).mp hb
    rcases Nat.lt_or_ge j at_ with c | c
    · rw [List.getElem?_append_left (by omega)] at hx
      exact I.apart j c x hx b hb.1
    · obtain rfl : j = at_ := by omega
      rw [List.getElem?_append_left al, ha] at hx
      cases hx
      exact hb.2
theorem LP.full (I : LP rs r0 L0 P Lf P.length) (cl : ∀ a ∈ L0, ∀ b ∈ rs, nr a b → b ∈ L0) {b : List Int} : b ∈ P ↔ Comp rs r0 b := by
  refine ⟨I.con b, ?_⟩
  rintro ⟨n, w⟩
  induction w with
  | nil _ => exact I.base
  | snoc w hb hc hn ih =>
    rename_i x y _
    have hx := ih
    have hy := cl x ((I.cov x).mpr (.inl hx)) y hc hn
    rcases (I.cov y).mp hy with h | h
    · exact h
    · obtain ⟨j, hj⟩ := List.mem_iff_getElem?.mp hx
      exact absurd hn (I.apart j (List.getElem?_eq_some_iff.mp hj).1 x hj y h)
/-- parts found, rows left -/
structure LQ (rs : List (List Int)) (ps : List (List (List Int))) (L0 : List (List Int)) : Prop where
  nodup : ps.Nodup
  ne : ∀ p ∈ ps, p ≠ []
  srt : ∀ p ∈ ps, p.Pairwise (· < ·)
  mem : ∀ p ∈ ps, ∀ r ∈ p, ∀ s, s ∈ p ↔ Comp rs r s
  dis : ∀ p ∈ ps, ∀ r ∈ p, r ∉ L0
  cov : ∀ r ∈ rs, r ∈ L0 ∨ ∃ p ∈ ps, r ∈ p
  sub : ∀ r ∈ L0, r ∈ rs
  nodupL : L0.Nodup
  cl : ∀ a ∈ L0, ∀ b ∈ rs, nr a b → b ∈ L0
theorem LQ.next {ps : List (List (List Int))} {ys : List (List Int)} (hL : ∀ r ∈ rs, r.length = many) (Q : LQ rs ps L0) (I : LP rs r0 L0 P Lf P.length) (pm : ys.Perm P) (up : ys.Pairwise (· < ·)) : LQ rs (ps ++ [ys]) Lf := by
  have F : ∀ {b}, b ∈ P ↔ Comp rs r0 b := I.full Q.cl
  have Y : ∀ {b}, b ∈ ys ↔ Comp rs r0 b := by intro b; rw [pm.mem_iff, F]
  have r0y : r0 ∈ ys := pm.mem_iff.mpr I.base
  refine ⟨?_, fun p hp => ?_, fun p hp => ?_, fun p hp => ?_, fun p hp r hr hl => ?_, fun r hr => ?_, fun r hr => Q.sub r ((I.cov r).mpr (.inr hr)), I.nodupL, fun a ha b hb n => ?_⟩
  · rw [List.nodup_append]
    refine ⟨Q.nodup, by simp, fun p hp q hq e => ?_⟩
    rw [List.mem_singleton.mp hq] at e
    rw [e] at hp
    exact Q.dis ys hp r0 r0y ((I.cov r0).mpr (.inl I.base))
  · rcases List.mem_append.mp hp with h | h
    · exact Q.ne p h
    · rw [List.mem_singleton.mp h]
      intro e
      rw [e] at r0y
      cases r0y
  · rcases List.mem_append.mp hp with h | h
    · exact Q.srt p h
    · rw [List.mem_singleton.mp h]; exact up
  · rcases List.mem_append.mp hp with h | h
    · exact Q.mem p h
    · rw [List.mem_singleton.mp h]
      intro a ha b
      have ca := Y.mp ha
      rw [Y]
      exact ⟨fun cb => (ca.symm hL).trans cb, fun cb => ca.trans cb⟩
  · rcases List.mem_append.mp hp with h | h
    · exact Q.dis p h r hr ((I.cov r).mpr (.inr hl))
    · rw [List.mem_singleton.mp h] at hr
      exact I.dis r (F.mpr (Y.mp hr)) hl
  · rcases Q.cov r hr with h | ⟨p, h1, h2⟩
    · rcases (I.cov r).mp h with h | h
      · exact .inr ⟨ys, by simp, Y.mpr (F.mp h)⟩
      · exact .inl h
    · exact .inr ⟨p, List.mem_append_left _ h1, h2⟩
  · rcases (I.cov b).mp (Q.cl a ((I.cov a).mpr (.inr ha)) b hb n) with h | h
    · have ar : a ∈ rs := Q.sub a ((I.cov a).mpr (.inr ha))
      have := (F.mp h).near ar (n.symm (by rw [hL a ar, hL b hb]))
      exact absurd ha (I.dis a (F.mpr this))
    · exact h
theorem LQ.done {ps qs : List (List (List Int))} (Q : LQ rs ps []) (pm : qs.Perm ps) (up : qs.Pairwise (· < ·)) : IsParts rs qs := by
  refine ⟨up, fun p hp => Q.ne p (pm.mem_iff.mp hp), fun p hp => Q.srt p (pm.mem_iff.mp hp), fun p hp => Q.mem p (pm.mem_iff.mp hp), fun p hp r hr => ((Q.mem p (pm.mem_iff.mp hp) r hr r).mp hr).right, fun r hr => ?_⟩
  rcases Q.cov r hr with h | ⟨p, h1, h2⟩
  · cases h
  · exact ⟨p, pm.mem_iff.mpr h1, h2⟩
/-! ## the run -/
abbrev envP (rs : List (List Int)) (lf fd : Nat) (x3 x4 x5 x6 : Option D) : Ev := [some (tupR rs), some (.loc lf), some (.loc fd), x3, x4, x5, x6]
def PI (rs : List (List Int)) (r0 : List Int) (L0 : List (List Int)) (fd : Nat) (hs : Hs) (k : Nat) (e : Ev) (h : Hs) : Prop := ∃ (lf pt at_ : Nat) (x5 x6 : Option D) (P Lf : List (List Int)), e = envP rs lf fd (some (.loc pt)) (some (.int (at_ : Nat))) x5 x6 ∧ k + at_ = rs.length ∧ LP rs r0 L0 P Lf at_ ∧ cell h lf = some (.lst (Lf.map tupI)) ∧ cell h pt = some (.lst (P.map tupI)) ∧ Gr [] hs h ∧ lf ≠ fd
theorem part_loop {fd : Nat} {R : Fl → Hs → Prop} {k : Nat} {e : Ev} (L : Lot many rs) (hf : rs.length ≤ 100) (h0 : ∀ b ∈ L0, b ∈ rs) (fl : fd < hs.length) (I : PI rs r0 L0 fd hs k e hs)
    (fin : ∀ lf pt x4 x5 x6 P Lf h, LP rs r0 L0 P Lf P.length → cell h lf = some (.lst (Lf.map tupI)) → cell h pt = some (.lst (P.map tupI)) → Gr [] hs h → lf ≠ fd → R (.nx (envP rs lf fd (some (.loc pt)) x4 x5 x6)) h) :
    Wp (whileS (asTest (op2 (cmpD .Lt) (varD 4) (callM lenD (consM (varD 3) (fun _ => M.pure [])))))
  (seqS (asgS (.one 5) (compM [6] (.one 6) (seqM (varD 1)) (truth (callF 2 r__law_near (consM (op2 ixD (varD 3) (varD 4)) (consM (varD 6) (fun _ => M.pure []))))) (varD 6)))
  (seqS (asgS (.one 1) (compM [6] (.one 6) (seqM (varD 1)) (asTest (op2 (cmpD .NotIn) (varD 6) (varD 5))) (varD 6)))
  (seqS (asgS (.many [3, 4]) (tupM (consM (op2 (binD .Add) (varD 3) (varD 5)) (consM (op2 (binD .Add) (varD 4) (fun _ => M.pure (.int 1))) (fun _ => M.pure [])))))
  nextS))) e hs) R := by
  refine wp_while (PI rs r0 L0 fd hs) (fun k e h I => ?_) k e hs I
  obtain ⟨lf, pt, at_, x5, x6, P, Lf, rfl, hk, J, C1, C2, G, lne⟩ := I
  have h5 := L.hi
  have inP : ∀ a ∈ P, a ∈ rs := fun a ha => (J.con a ha).right
  have inL : ∀ a ∈ Lf, a ∈ rs := fun a ha => h0 a ((J.cov a).mpr (.inr ha))
  have Pl : P.length ≤ rs.length := nodup_sub J.nodup inP
  have Ll : Lf.length ≤ rs.length := nodup_sub J.nodupL inL
  have al := J.le
  simp [C2]
  by_cases c : at_ < P.length
  · simp only [c, decide_true]
    obtain ⟨a, ha⟩ : ∃ a, P[at_]? = some a := ⟨_, List.getElem?_eq_getElem c⟩
    have N := J.next h0 ha
    have ar := inP a (List.mem_of_getElem? ha)
    have nl := nodup_sub N.nodup fun x hx => (N.con x hx).right
    simp [C1]
    refine wp_comp_grow [] (keepG (nrB a)) (fun h1 g => g.get C1 (by simp)) (by simpa using by omega) (fun d h1 hd g => ?_) fun h1 g => ?_
    · obtain ⟨b, hb, rfl⟩ := List.mem_map.mp hd
      have C3 := g.get C2 (by simp)
      simp [C3]
      refine ⟨tupI a, ?_, ?_⟩
      · rw [atI_lit, List.getElem?_map, ha]
        rfl
      refine near_ok (by rw [L.len a ar, L.len b (inL b hb)]) (by rw [L.len a ar]; omega) fun h2 g2 => ?_
      simp
      cases e : nrB a b with
      | true => simp [keepG, rowOf_row, e]; exact g2
      | false => simp [keepG, rowOf_row, e]; exact g2
    rw [keepG_all]
    have c1 : cell (h1 ++ [O.lst ((Lf.filter (nrB a)).map tupI)]) lf = some (.lst (Lf.map tupI)) := by
      have := g.get C1 (by simp)
      rw [cell_push_lt (cell_lt this)]; exact this
    have c2 : cell (h1 ++ [O.lst ((Lf.filter (nrB a)).map tupI)]) pt = some (.lst (P.map tupI)) := by
      have := g.get C2 (by simp)
      rw [cell_push_lt (cell_lt this)]; exact this
    have c3 : cell (h1 ++ [O.lst ((Lf.filter (nrB a)).map tupI)]) h1.length = some (.lst ((Lf.filter (nrB a)).map tupI)) := cell_push
    have G1 : Gr [] hs (h1 ++ [O.lst ((Lf.filter (nrB a)).map tupI)]) := G.trans (g.trans .push)
    obtain ⟨mo, hmo⟩ : ∃ mo, mo = h1.length := ⟨_, rfl⟩
    rw [← hmo] at c3 ⊢
    generalize h1 ++ [O.lst ((Lf.filter (nrB a)).map tupI)] = h2 at *
    simp [c1, -wp_cmpNotIn]
    refine wp_comp_grow [] (keepG (notIn (Lf.filter (nrB a)))) (fun h1 g => g.get c1 (by simp)) (by simpa using by omega) (fun d h3 hd g => ?_) fun h3 g => ?_
    · obtain ⟨b, hb, rfl⟩ := List.mem_map.mp hd
      simp [-wp_cmpNotIn]
      rw [wp_cmpNotIn, in_rowsL (g.get c3 (by simp))]
      by_cases e : b ∈ Lf.filter (nrB a)
      · rw [keep_in e, decide_eq_true e]
        simp
        exact .refl
      · rw [keep_out e, decide_eq_false e]
        simp
        exact .refl
    rw [keepG_all]
    have p2 := g.get c2 (by simp)
    have p3 := g.get c3 (by simp)
    have d2 : cell (h3 ++ [O.lst ((Lf.filter (notIn (Lf.filter (nrB a)))).map tupI)]) pt = some (.lst (P.map tupI)) := by rw [cell_push_lt (cell_lt p2)]; exact p2
    have d3 : cell (h3 ++ [O.lst ((Lf.filter (notIn (Lf.filter (nrB a)))).map tupI)]) mo = some (.lst ((Lf.filter (nrB a)).map tupI)) := by rw [cell_push_lt (cell_lt p3)]; exact p3
    have d1 : cell (h3 ++ [O.lst ((Lf.filter (notIn (Lf.filter (nrB a)))).map tupI)]) h3.length = some (.lst ((Lf.filter (notIn (Lf.filter (nrB a)))).map tupI)) := cell_push
    have G3 : Gr [] hs (h3 ++ [O.lst ((Lf.filter (notIn (Lf.filter (nrB a)))).map tupI)]) := G1.trans (g.trans .push)
    obtain ⟨l2, hl2⟩ : ∃ l2, l2 = h3.length := ⟨_, rfl⟩
    rw [← hl2] at d1 ⊢
    generalize (Lf.filter (notIn (Lf.filter (nrB a)))) = Lf2 at *
    generalize h3 ++ [O.lst (Lf2.map tupI)] = h4 at *
    simp only [List.length_append] at nl
    refine ⟨_, d2, _, d3, sz (by simp at nl ⊢; omega), ?_⟩
    refine ⟨k - 1, by omega, l2, l2 + 1, at_ + 1, _, _, P ++ Lf.filter (nrB a), Lf2, rfl, by omega, N, ?_, ?_, G1.trans (g.trans .app), by have := G1.le; have := g.le; omega⟩
    · rw [hl2]
      exact cell_app (k := 0)
    · rw [hl2, List.map_append]
      exact cell_app (k := 1)
  · simp only [c, decide_false]
    have e : at_ = P.length := by omega
    subst e
    exact fin _ _ _ _ _ P Lf h J C1 C2 G lne
end
end DL.Row
set_option Elab.async false
set_option linter.all false
set_option maxRecDepth 100000
set_option maxHeartbeats 4000000
namespace DL.Row
open PySem PySem.Spec PyProof.Rows L2 DL

theorem items_lst {h : Hs} {n : Nat} {xs : List D} (hc : cell h n = some (.lst xs)) : itemsD h (.loc n) = some xs := by
  rw [← cell_eq] at hc
  unfold itemsD
  simp only [hc]
theorem t1_row {r : List Int} (h : r ≠ []) : pdT1 (pd r) = true := by
  cases r with
  | nil => exact absurd rfl h
  | cons a b => rfl
theorem t1_part {p : List (List Int)} (h : p ≠ []) : pdT1 (pdP p) = true := by
  cases p with
  | nil => exact absurd rfl h
  | cons a b => rfl
section
variable {many : Nat} {rs : List (List Int)} {hs h : Hs}
theorem Lot.ne (L : Lot many rs) {r : List Int} (h : r ∈ rs) : r ≠ [] := fun e => by
  have := L.len r h
  have := L.lo
  subst e
  simp at *
  omega
def PO (rs : List (List Int)) (fd : Nat) (hs : Hs) (k : Nat) (e : Ev) (h : Hs) : Prop := ∃ (lf : Nat) (x3 x4 x5 x6 : Option D) (L0 : List (List Int)) (ps : List (List (List Int))), e = envP rs lf fd x3 x4 x5 x6 ∧ k = L0.length ∧ LQ rs ps L0 ∧ cell h lf = some (.lst (L0.map tupI)) ∧ cell h fd = some (.lst (ps.map tupR)) ∧ fd ≠ lf ∧ Gr [] hs h ∧ hs.length ≤ fd ∧ ps.length + L0.length ≤ rs.length
theorem law_parts_ok {Q : Except Ex D → Hs → Prop} (L : Lot many rs) (hf : rs.length ≤ 100) (q : ∀ l ps h, hs.length ≤ l → cell h l = some (.lst (ps.map tupR)) → IsParts rs ps → Gr [] hs h → Q (.ok (.loc l)) h) : Wp (r__law_parts [tupR rs] hs) Q := by
  unfold r__law_parts b__law_parts
  rw [wp_run]
  simp only [wp_seq]
  simp
  have sq : Wp (listD [tupR rs] hs) = Wp (listD [.tup (rs.map tupI)] hs) := rfl
  rw [sq, wp_list_tup]
  simp
  have c0 : cell (hs ++ [O.lst (rs.map tupI), O.lst []]) hs.length = some (.lst (rs.map tupI)) := cell_app (k := 0)
  have c1 : cell (hs ++ [O.lst (rs.map tupI), O.lst []]) (hs.length + 1) = some (.lst (([] : List (List (List Int))).map tupR)) := cell_app (k := 1)
  have G0 : Gr [] hs (hs ++ [O.lst (rs.map tupI), O.lst []]) := .app
  generalize hs ++ [O.lst (rs.map tupI), O.lst []] = h0 at *
  refine wp_while (PO rs (hs.length + 1) hs) (fun k e h I => ?_) rs.length _ _ ⟨hs.length, _, _, _, _, rs, [], rfl, rfl, ⟨List.nodup_nil, by simp, by simp, by simp, by simp, fun r h => .inl h, fun r h => h, L.nodup, fun a _ b hb _ => hb⟩, c0, c1, by omega, G0, by omega, by simp⟩
  obtain ⟨lf, x3, x4, x5, x6, L0, ps, rfl, rfl, J, C1, C2, ne, G, hl, pl⟩ := I
  have D1 : cell (h ++ [O.lst []]) lf = some (.lst (L0.map tupI)) := by rw [cell_push_lt (cell_lt C1)]; exact C1
  have D2 : cell (h ++ [O.lst []]) (hs.length + 1) = some (.lst (ps.map tupR)) := by rw [cell_push_lt (cell_lt C2)]; exact C2
  have D3 : cell (h ++ [O.lst []]) h.length = some (.lst (([] : List (List Int)).map tupI)) := cell_push
  have G2 : Gr [] hs (h ++ [O.lst []]) := G.trans .push
  simp [-wp_cmpNe]
  rw [wp_cmpNe, eq_rowsL D1 D3]
  generalize h ++ [O.lst []] = h1 at *
  cases L0 with
  | nil =>
    simp [PyData.eqvAll]
    refine wp_sort ordP (items_lst D2) (fun p hp => t1_part (J.ne p hp)) fun qs pm srt => ?_
    exact q _ qs _ (by have := G2.le; omega) cell_push (J.done pm (rising_of ordP pm srt J.nodup)) (G2.trans .push)
  | cons r0 tl =>
    have ev : PyData.eqvAll ((r0 :: tl).map pd) (([] : List (List Int)).map pd) = false := by simp [PyData.eqvAll]
    rw [ev]
    simp [D1]
    have cu1 : cutD (tupI r0 :: tl.map tupI) none (some 1) = [tupI r0] := by rw [cut_nil (by decide)]; rfl
    have cu2 : cutD (tupI r0 :: tl.map tupI) (some 1) none = tl.map tupI := by rw [cut_from (by decide)]; rfl
    have D1' : cell h1 lf = some (.lst (tupI r0 :: tl.map tupI)) := D1
    have ll := cell_lt D1
    refine ⟨_, by rw [cell_push_lt ll]; exact D1', ?_⟩
    rw [cu1, cu2]
    have E1 : cell (h1 ++ [O.lst [tupI r0], O.lst (tl.map tupI)]) (h1.length + 1) = some (.lst (tl.map tupI)) := cell_app (k := 1)
    have E2 : cell (h1 ++ [O.lst [tupI r0], O.lst (tl.map tupI)]) h1.length = some (.lst ([r0].map tupI)) := cell_app (k := 0)
    have E3 : cell (h1 ++ [O.lst [tupI r0], O.lst (tl.map tupI)]) (hs.length + 1) = some (.lst (ps.map tupR)) := by rw [cell_app_lt (cell_lt D2)]; exact D2
    have G3 : Gr [] hs (h1 ++ [O.lst [tupI r0], O.lst (tl.map tupI)]) := G2.trans .app
    have l1 := cell_lt D2
    obtain ⟨b, hb⟩ : ∃ b, b = h1.length := ⟨_, rfl⟩
    rw [← hb] at E1 E2 ⊢
    generalize h1 ++ [O.lst [tupI r0], O.lst (tl.map tupI)] = h2 at *
    have nd := List.nodup_cons.mp J.nodupL
    have r0r : r0 ∈ rs := J.sub r0 (by simp)
    refine part_loop (r0 := r0) (L0 := r0 :: tl) (k := rs.length) L hf J.sub (cell_lt E3) ⟨b + 1, b, 0, _, _, [r0], tl, rfl, rfl, ⟨by simp, nd.2, by simpa using nd.1, fun a ha => by rw [List.mem_singleton.mp ha]; exact .refl r0r, by simp, fun a => by simp, fun j hj => by omega, by simp⟩, E1, E2, .refl, by omega⟩ fun lf2 pt x4 x5 x6 P Lf h3 I F1 F2 G4 fne' => ?_
    have F3 := G4.get E3 (by simp)
    have inP : ∀ a ∈ P, a ∈ rs := fun a ha => (I.con a ha).right
    simp [F3]
    refine wp_sort ordR (items_lst F2) (fun x hx => t1_row (L.ne (inP x hx))) fun ys pm srt => ?_
    simp
    have up := rising_of ordR pm srt I.nodup
    have K3 : cell (h3 ++ [O.lst (ys.map tupI)]) (hs.length + 1) = some (.lst (ps.map tupR)) := by rw [cell_push_lt (cell_lt F3)]; exact F3
    have K1 : cell (h3 ++ [O.lst (ys.map tupI)]) lf2 = some (.lst (Lf.map tupI)) := by rw [cell_push_lt (cell_lt F1)]; exact F1
    have G5 : Gr [] hs (h3 ++ [O.lst (ys.map tupI)]) := G3.trans (G4.trans .push)
    have tn : tl.length + 1 + ps.length ≤ rs.length := by simp at pl; omega
    have Ln : Lf.length ≤ tl.length := by
      have := nodup_sub (a := r0 :: Lf) (b := r0 :: tl) (List.nodup_cons.mpr ⟨I.dis r0 I.base, I.nodupL⟩) fun x hx => by
        rcases List.mem_cons.mp hx with rfl | hx
        · simp
        · exact (I.cov x).mpr (.inr hx)
      simpa using this
    have fne : hs.length + 1 ≠ lf2 := Ne.symm fne'
    refine ⟨_, K3, small1000 (by simp; omega), Lf.length, by omega, lf2, _, _, _, _, Lf, ps ++ [ys], rfl, rfl, J.next L.len I pm up, ?_, ?_, fne, gskip G5 (Gr.set (S := [hs.length + 1]) (by simp)) (by simp), by omega, by simp; omega⟩
    · rw [cell_set_ne fne]
      exact K1
    · rw [cell_set_self (cell_lt K3)]
      simp [tupR]
end
end DL.Row
set_option Elab.async false
set_option linter.all false
set_option maxRecDepth 100000
set_option maxHeartbeats 4000000
namespace DL.Row
open PySem PySem.Spec PyProof.Rows L2 DL

/-! ## _law_lot -/
noncomputable def b__law_lot : Ev → S := (seqS (asgS (.one 4) (lstM (consM (callM tupleD (consM (compM [7] (.one 7) (rngM 1 (consM (varD 1) (fun _ => M.pure []))) (fun _ => M.pure true) (callF 2 r__law_draw (consM (varD 0) (consM (varD 2) (fun _ => M.pure []))))) (fun _ => M.pure []))) (fun _ => M.pure []))))
  (seqS (loopS (.one 5) (rngM 1 (consM (callF 2 r__law_draw (consM (varD 0) (consM (varD 3) (fun _ => M.pure [])))) (fun _ => M.pure [])))
  (seqS (asgS (.many [6, 7]) (tupM (consM (callF 2 r__law_any (consM (varD 0) (consM (varD 4) (fun _ => M.pure [])))) (consM (callF 2 r__law_draw (consM (varD 0) (consM (varD 1) (fun _ => M.pure [])))) (fun _ => M.pure [])))))
  (seqS (asgS (.one 8) (op2 (binD .Add) (op2 (binD .Add) (sliceM (varD 6) (fun _ => M.pure none) (fun v => M.bind ((varD 7) v) partD)) (tupM (consM (callF 2 r__law_draw (consM (varD 0) (consM (varD 2) (fun _ => M.pure [])))) (fun _ => M.pure [])))) (sliceM (varD 6) (fun v => M.bind ((op2 (binD .Add) (varD 7) (fun _ => M.pure (.int 1))) v) partD) (fun _ => M.pure none))))
  (seqS (asgS (.one 9) (callM tupleD (consM (compM [10] (.one 10) (rngM 1 (consM (varD 1) (fun _ => M.pure []))) (fun _ => M.pure true) (callF 2 r__law_draw (consM (varD 0) (consM (varD 2) (fun _ => M.pure []))))) (fun _ => M.pure []))))
  (seqS (dropS (methM "list" appendD (varD 4) (consM (callF 2 r__law_any (consM (varD 0) (consM (lstM (consM (varD 8) (consM (varD 8) (consM (varD 9) (fun _ => M.pure []))))) (fun _ => M.pure [])))) (fun _ => M.pure []))))
  nextS)))))
  (seqS (retS (callM tupleD (consM (sortSetT (varD 4)) (fun _ => M.pure []))))
  nextS)))
noncomputable def r__law_lot : List D → M D := runB 11 b__law_lot
theorem smR {n : Int} (h0 : 0 < n) (h : n < 2 ^ 64) : n.natAbs < big := Nat.lt_of_lt_of_le (by omega) small_big
def RowG (many : Nat) (B : Int) (r : List Int) : Prop := r.length = many ∧ ∀ x ∈ r, 0 ≤ x ∧ x < B
def putR (r : List Int) (j : Nat) (w : Int) : List Int := r.take j ++ w :: r.drop (j + 1)
theorem putR_good {many : Nat} {B w : Int} {r : List Int} {j : Nat} (h : RowG many B r) (hj : j < many) (h0 : 0 ≤ w) (h1 : w < B) : RowG many B (putR r j w) := by
  refine ⟨?_, fun x hx => ?_⟩
  · unfold putR
    have := h.1
    simp
    omega
  · unfold putR at hx
    rcases List.mem_append.mp hx with hx | hx
    · exact h.2 x (List.mem_of_mem_take hx)
    · rcases List.mem_cons.mp hx with rfl | hx
      · exact ⟨h0, h1⟩
      · exact h.2 x (List.mem_of_mem_drop hx)
section
variable {hs : Hs} {p many l : Nat} {B most : Int}
abbrev envL (p many : Nat) (B most : Int) (l : Nat) (x5 x6 x7 x8 x9 x10 : Option D) : Ev := [some (.loc p), some (.int (many : Nat)), some (.int B), some (.int most), some (.loc l), x5, x6, x7, x8, x9, x10]
def LI (p many : Nat) (B most : Int) (l : Nat) (hs : Hs) (i : Nat) (e : Ev) (h : Hs) : Prop := ∃ (x5 x6 x7 x8 x9 x10 : Option D) (rows : List (List Int)), e = envL p many B most l x5 x6 x7 x8 x9 x10 ∧ cell h l = some (.lst (rows.map tupI)) ∧ rows.length = i + 1 ∧ (∀ r ∈ rows, RowG many B r) ∧ Pg p hs h
/-- a row drawn -/
theorem row_draw {Q : List D → Hs → Prop} {e : Ev} {i : Nat} (h : Pot p hs) (hi : many ≤ 5) (hB : 0 < B ∧ B ≤ 100) (e0 : e[0]? = some (some (.loc p))) (e2 : e[2]? = some (some (.int B))) (hi3 : 3 ≤ i)
    (k : ∀ r h', RowG many B r → Pg p hs h' → Q (r.map .int) h') : Wp (compS (fun _ => True) (turnM (.one i) (fun _ => M.pure true) (callF 2 r__law_draw (consM (varD 0) (consM (varD 2) (fun _ => M.pure [])))) e) (intL 0 many) [] hs) Q := by
  refine ints_draw (B := B) h (by omega) (fun d h1 K hp step => ?_) fun xs h1 hl hx g => ?_
  · have n0 : i ≠ 0 := by omega
    have n2 : i ≠ 2 := by omega
    simp [List.getElem?_set, n0, n2, e0, e2]
    refine draw_ok hp hB.1 (smR (by omega) (by omega)) fun v h2 v0 v1 g2 => ?_
    simp
    exact step v h2 v0 v1 g2
  · exact k xs _ ⟨hl, hx⟩ g
theorem lot_ok {Q : Except Ex D → Hs → Prop} (h : Pot p hs) (lo : 3 ≤ many) (hi : many ≤ 5) (hB : 0 < B ∧ B ≤ 100) (hm : 0 < most ∧ most ≤ 60) (q : ∀ rs h', Lot many rs → rs.length ≤ 100 → (∀ r ∈ rs, ∀ x ∈ r, 0 ≤ x ∧ x < B) → Pg p hs h' → Q (.ok (tupR rs)) h') : Wp (r__law_lot [.loc p, .int (many : Nat), .int B, .int most] hs) Q := by
  unfold r__law_lot b__law_lot
  rw [wp_run]
  simp only [wp_seq]
  simp
  refine ⟨by omega, ?_⟩
  refine row_draw h hi hB rfl rfl (by omega) fun r0 h1 hr0 g1 => ?_
  have G1 : Pg p hs (h1 ++ [O.lst (r0.map D.int)]) := g1.trans (.push g1.pot)
  have c0 : cell (h1 ++ [O.lst (r0.map D.int), O.lst [.tup (r0.map D.int)]]) (h1.length + 1) = some (.lst ([r0].map tupI)) := cell_app (k := 1)
  have G0 : Pg p hs (h1 ++ [O.lst (r0.map D.int), O.lst [.tup (r0.map D.int)]]) := g1.trans (.of g1.pot .app)
  have l1 := g1.gr.le
  have l2 := h.lt
  obtain ⟨l, hl⟩ : ∃ l, l = h1.length + 1 := ⟨_, rfl⟩
  rw [← hl] at c0 ⊢
  generalize h1 ++ [O.lst (r0.map D.int), O.lst [.tup (r0.map D.int)]] = h2 at *
  refine draw_ok G0.pot hm.1 (smR (by omega) (by omega)) fun v h3 v0 v1 g3 => ?_
  simp
  refine ⟨by omega, ?_⟩
  have c3 := g3.get c0 (by omega)
  have G3 := G0.trans g3
  refine wp_for (LI p many B most l hs) ⟨_, _, _, _, _, _, [r0], rfl, c3, rfl, fun r hr => by rw [List.mem_singleton.mp hr]; exact hr0, G3⟩ ?_ ?_
  · rintro i d e h ii ⟨x5, x6, x7, x8, x9, x10, rows, rfl, hc, hlen, hg, G⟩
    obtain ⟨il, rfl⟩ := intL_at ii
    refine ⟨trivial, ?_⟩
    rw [bodyK_one]
    simp only [wp_seq]
    simp
    refine any_ok G.pot (.loc hc (by omega)) (by intro e; rw [List.map_eq_nil_iff] at e; rw [e] at hlen; cases hlen) (by simp; omega) fun x h4 hx g4 => ?_
    obtain ⟨r, hr, rfl⟩ := List.mem_map.mp hx
    have gr := hg r hr
    simp
    refine draw_ok g4.pot (by omega) (smR (by omega) (by omega)) fun w h5 w0 w1 g5 => ?_
    obtain ⟨j, rfl⟩ : ∃ j : Nat, w = (j : Int) := ⟨w.toNat, by omega⟩
    rw [tupI_eq]
    simp
    refine draw_ok g5.pot hB.1 (smR (by omega) (by omega)) fun w h6 y0 y1 g6 => ?_
    have e1 : cutD (r.map D.int) (some ((j : Int) + 1)) none = (r.map D.int).drop (j + 1) := by
      rw [cut_from (by omega)]
      congr 1
    have e2 : cutD (r.map D.int) none (some (j : Int)) = (r.map D.int).take j := cut_nil (by omega)
    have lr := gr.1
    simp [e1, e2]
    refine ⟨sz (by omega), sz (by omega), by omega, ?_⟩
    have e3 : D.tup ((r.map D.int).take j ++ D.int w :: (r.map D.int).drop (j + 1)) = tupI (putR r j w) := by simp [tupI, putR]
    rw [e3]
    refine row_draw g6.pot hi hB rfl rfl (by omega) fun t h7 ht g7 => ?_
    have e4 : D.tup (t.map D.int) = tupI t := rfl
    rw [e4]
    have G7 := (G.trans ((g4.trans g5).trans (g6.trans g7)))
    have c7 := (g4.trans ((g5.trans g6).trans g7)).get hc (by omega)
    have l7 := cell_lt c7
    have C8 : cell (h7 ++ [O.lst (t.map D.int), O.lst [tupI (putR r j w), tupI (putR r j w), tupI t]]) (h7.length + 1) = some (.lst [tupI (putR r j w), tupI (putR r j w), tupI t]) := cell_app (k := 1)
    have c8 : cell (h7 ++ [O.lst (t.map D.int), O.lst [tupI (putR r j w), tupI (putR r j w), tupI t]]) l = some (.lst (rows.map tupI)) := by rw [cell_app_lt (cell_lt c7)]; exact c7
    have G8 : Pg p hs (h7 ++ [O.lst (t.map D.int), O.lst [tupI (putR r j w), tupI (putR r j w), tupI t]]) := G7.trans (.of G7.pot .app)
    refine ⟨⟨_, by rw [cell_push_lt l7]; exact c7⟩, ?_⟩
    refine any_ok G8.pot (.loc C8 (by omega)) (by simp) (by simp) fun x h9 hx g9 => ?_
    obtain ⟨t9, rfl, ht9⟩ : ∃ t9, x = tupI t9 ∧ RowG many B t9 := by
      simp only [List.mem_cons, List.not_mem_nil, or_false] at hx
      rcases hx with rfl | rfl | rfl
      · exact ⟨_, rfl, putR_good gr (by omega) y0 y1⟩
      · exact ⟨_, rfl, putR_good gr (by omega) y0 y1⟩
      · exact ⟨_, rfl, ht⟩
    have c9 := g9.get c8 (by omega)
    simp
    refine ⟨_, c9, small1000 (by simp; omega), ?_⟩
    refine ⟨_, _, _, _, _, _, rows ++ [t9], rfl, ?_, by simp [hlen], fun r' hr' => ?_, (G8.trans g9).set (by omega) (by omega)⟩
    · rw [cell_set_self (cell_lt c9)]
      simp
    · rcases List.mem_append.mp hr' with h | h
      · exact hg r' h
      · rw [List.mem_singleton.mp h]; exact ht9
  · rintro e h ⟨x5, x6, x7, x8, x9, x10, rows, rfl, hc, hlen, hg, G⟩
    rw [intL_len] at hlen
    refine ⟨trivial, ?_⟩
    simp [wp_sortSetT]
    have h0 : rows ≠ [] := by intro e; rw [e] at hlen; cases hlen
    refine wp_sortset_rows hc h0 (by omega) (by omega) (fun r hr => ⟨(hg r hr).1, fun x hx => ((hg r hr).2 x hx).1⟩) ?_
    simp
    refine q _ _ (usortR_lot h0 (fun r hr => (hg r hr).1) lo hi (by omega)) (Nat.le_trans (usortR_len rows) (by omega)) (fun r hr => (hg r (usortR_mem.mp hr)).2) (G.trans (.push G.pot))
end
end DL.Row
set_option Elab.async false
set_option linter.all false
set_option maxRecDepth 100000
set_option maxHeartbeats 4000000
namespace DL.K05
open PySem PySem.Spec PyProof.Rows L2 DL

/-! ## the text, by places -/
def top (i : Nat) : Stmt := PySem.Challenge.pw_onesilent_k05_whole_parts_of_lots.main.body.getD i (.Pass ⟨0, 0, 0, 0⟩)
/-! _law_pot -/
abbrev s__law_pot : Stmt := top 23
noncomputable def g__law_pot : List (Str × GI) := [("abs", .bi), ("int", .bi), ("len", .bi)]
noncomputable def c__law_pot : SC := { N := ["_law_script", "_law_cells", "_law_cell"], sc := defScope s__law_pot, fnc := fun _ => true, G := fun y => g__law_pot.lookup y }
theorem eq__law_pot : evB c__law_pot (defBody s__law_pot) = b__law_pot := by rfl
/-! _law_draw -/
abbrev s__law_draw : Stmt := top 24
noncomputable def g__law_draw : List (Str × GI) := [("len", .bi), ("int", .bi)]
noncomputable def c__law_draw : SC := { N := ["_law_pot_here", "_law_many", "_law_cell", "_law_digit", "_law_number"], sc := defScope s__law_draw, fnc := fun _ => true, G := fun y => g__law_draw.lookup y }
theorem eq__law_draw : evB c__law_draw (defBody s__law_draw) = b__law_draw := by rfl
/-! _law_any -/
abbrev s__law_any : Stmt := top 25
noncomputable def g__law_any : List (Str × GI) := [("_law_draw", .fn 2 r__law_draw), ("len", .bi)]
noncomputable def c__law_any : SC := { N := ["_law_pot_here", "_law_things"], sc := defScope s__law_any, fnc := fun _ => true, G := fun y => g__law_any.lookup y }
theorem eq__law_any : evB c__law_any (defBody s__law_any) = b__law_any := by rfl
/-! _law_lot -/
abbrev s__law_lot : Stmt := top 29
noncomputable def g__law_lot : List (Str × GI) := [("tuple", .bi), ("range", .bi), ("_law_draw", .fn 2 r__law_draw), ("_law_any", .fn 2 r__law_any), ("sorted", .bi), ("set", .bi)]
noncomputable def c__law_lot : SC := { N := ["_law_pot_here", "_law_many", "_law_values", "_law_most", "_law_rows", "_law_turn", "_law_row", "_law_place", "_law_near_here", "_law_far", "_law_at"], sc := defScope s__law_lot, fnc := fun _ => true, G := fun y => g__law_lot.lookup y }
theorem eq__law_lot : evB c__law_lot (defBody s__law_lot) = Row.b__law_lot := by rfl
/-! is_integer -/
abbrev s_is_integer : Stmt := top 3
noncomputable def g_is_integer : List (Str × GI) := [("isinstance", .bi), ("int", .bi), ("bool", .bi)]
noncomputable def c_is_integer : SC := { N := ["thing"], sc := defScope s_is_integer, fnc := fun _ => true, G := fun y => g_is_integer.lookup y }
theorem eq_is_integer : evB c_is_integer (defBody s_is_integer) = b_is_integer := by rfl
/-! is_within -/
abbrev s_is_within : Stmt := top 4
noncomputable def g_is_within : List (Str × GI) := [("is_integer", .fn 1 r_is_integer)]
noncomputable def c_is_within : SC := { N := ["thing", "least", "most"], sc := defScope s_is_within, fnc := fun _ => true, G := fun y => g_is_within.lookup y }
theorem eq_is_within : evB c_is_within (defBody s_is_within) = b_is_within := by rfl
/-! is_many -/
abbrev s_is_many : Stmt := top 5
noncomputable def g_is_many : List (Str × GI) := [("is_within", .fn 3 r_is_within), ("LEAST_MANY", .val (.int 3)), ("MOST_MANY", .val (.int 5))]
noncomputable def c_is_many : SC := { N := ["thing"], sc := defScope s_is_many, fnc := fun _ => true, G := fun y => g_is_many.lookup y }
theorem eq_is_many : evB c_is_many (defBody s_is_many) = b_is_many := by rfl
/-! is_sized -/
abbrev s_is_sized : Stmt := top 6
noncomputable def g_is_sized : List (Str × GI) := [("isinstance", .bi), ("tuple", .bi), ("len", .bi)]
noncomputable def c_is_sized : SC := { N := ["thing", "least", "most"], sc := defScope s_is_sized, fnc := fun _ => true, G := fun y => g_is_sized.lookup y }
theorem eq_is_sized : evB c_is_sized (defBody s_is_sized) = b_is_sized := by rfl
/-! is_row_of -/
abbrev s_is_row_of : Stmt := top 7
noncomputable def g_is_row_of : List (Str × GI) := [("is_sized", .fn 3 r_is_sized), ("all", .bi), ("is_integer", .fn 1 r_is_integer)]
noncomputable def c_is_row_of : SC := { N := ["thing", "many", "item"], sc := defScope s_is_row_of, fnc := fun _ => true, G := fun y => g_is_row_of.lookup y }
theorem eq_is_row_of : evB c_is_row_of (defBody s_is_row_of) = Row.b_is_row_of := by rfl
/-! is_row -/
abbrev s_is_row : Stmt := top 8
noncomputable def g_is_row : List (Str × GI) := [("isinstance", .bi), ("tuple", .bi), ("is_many", .fn 1 r_is_many), ("len", .bi), ("is_row_of", .fn 2 Row.r_is_row_of)]
noncomputable def c_is_row : SC := { N := ["thing"], sc := defScope s_is_row, fnc := fun _ => true, G := fun y => g_is_row.lookup y }
theorem eq_is_row : evB c_is_row (defBody s_is_row) = Row.b_is_row := by rfl
/-! are_rising -/
abbrev s_are_rising : Stmt := top 9
noncomputable def g_are_rising : List (Str × GI) := [("all", .bi), ("zip", .bi)]
noncomputable def c_are_rising : SC := { N := ["things", "one", "other"], sc := defScope s_are_rising, fnc := fun _ => true, G := fun y => g_are_rising.lookup y }
theorem eq_are_rising : evB c_are_rising (defBody s_are_rising) = Row.b_are_rising := by rfl
/-! is_lot -/
abbrev s_is_lot : Stmt := top 16
noncomputable def g_is_lot : List (Str × GI) := [("isinstance", .bi), ("tuple", .bi), ("len", .bi), ("is_row", .fn 1 Row.r_is_row), ("all", .bi), ("is_row_of", .fn 2 Row.r_is_row_of), ("are_rising", .fn 1 Row.r_are_rising)]
noncomputable def c_is_lot : SC := { N := ["thing", "row"], sc := defScope s_is_lot, fnc := fun _ => true, G := fun y => g_is_lot.lookup y }
theorem eq_is_lot : evB c_is_lot (defBody s_is_lot) = Row.b_is_lot := by rfl
/-! check_lot -/
abbrev s_check_lot : Stmt := top 17
noncomputable def g_check_lot : List (Str × GI) := [("is_lot", .fn 1 Row.r_is_lot), ("NoLot", .err none)]
noncomputable def c_check_lot : SC := { N := ["thing"], sc := defScope s_check_lot, fnc := fun _ => true, G := fun y => g_check_lot.lookup y }
theorem eq_check_lot : evB c_check_lot (defBody s_check_lot) = Row.b_check_lot := by rfl
/-! raw_rest -/
abbrev s_raw_rest : Stmt := top 14
noncomputable def g_raw_rest : List (Str × GI) := []
noncomputable def c_raw_rest : SC := { N := ["row", "i"], sc := defScope s_raw_rest, fnc := fun _ => true, G := fun y => g_raw_rest.lookup y }
theorem eq_raw_rest : evB c_raw_rest (defBody s_raw_rest) = Row.b_raw_rest := by rfl
/-! rows_by_rests -/
abbrev s_rows_by_rests : Stmt := top 18
noncomputable def g_rows_by_rests : List (Str × GI) := [("range", .bi), ("len", .bi), ("raw_rest", .fn 2 Row.r_raw_rest)]
noncomputable def c_rows_by_rests : SC := { N := ["lot", "found", "row", "i"], sc := defScope s_rows_by_rests, fnc := fun _ => true, G := fun y => g_rows_by_rests.lookup y }
theorem eq_rows_by_rests : evB c_rows_by_rests (defBody s_rows_by_rests) = Row.b_rows_by_rests := by rfl
/-! steps_from -/
abbrev s_steps_from : Stmt := top 19
noncomputable def g_steps_from : List (Str × GI) := [("len", .bi), ("range", .bi), ("raw_rest", .fn 2 Row.r_raw_rest)]
noncomputable def c_steps_from : SC := { N := ["groups", "begin", "found", "waiting", "at", "row", "i", "other"], sc := defScope s_steps_from, fnc := fun _ => true, G := fun y => g_steps_from.lookup y }
theorem eq_steps_from : evB c_steps_from (defBody s_steps_from) = Row.b_steps_from := by rfl
/-! raw_parts -/
abbrev s_raw_parts : Stmt := top 20
noncomputable def g_raw_parts : List (Str × GI) := [("rows_by_rests", .fn 1 Row.r_rows_by_rests), ("steps_from", .fn 2 Row.r_steps_from), ("tuple", .bi), ("sorted", .bi)]
noncomputable def c_raw_parts : SC := { N := ["lot", "groups", "known", "found", "row", "part"], sc := defScope s_raw_parts, fnc := fun _ => true, G := fun y => g_raw_parts.lookup y }
theorem eq_raw_parts : evB c_raw_parts (defBody s_raw_parts) = Row.b_raw_parts := by rfl
/-! parts -/
abbrev s_parts : Stmt := top 21
noncomputable def g_parts : List (Str × GI) := [("check_lot", .fn 1 Row.r_check_lot), ("raw_parts", .fn 1 Row.r_raw_parts)]
noncomputable def c_parts : SC := { N := ["lot"], sc := defScope s_parts, fnc := fun _ => true, G := fun y => g_parts.lookup y }
noncomputable def b_parts : Ev → S := (seqS (dropS (callF 1 Row.r_check_lot (consM (varD 0) (fun _ => M.pure []))))
  (seqS (retS (callF 1 Row.r_raw_parts (consM (varD 0) (fun _ => M.pure []))))
  nextS))
noncomputable def r_parts : List D → M D := runB 1 b_parts
theorem eq_parts : evB c_parts (defBody s_parts) = b_parts := by rfl
/-! _law_is -/
abbrev s__law_is : Stmt := top 26
noncomputable def g0__law_is : List (Str × GI) := [("isinstance", .bi), ("tuple", .bi), ("list", .bi), ("len", .bi), ("all", .bi), ("range", .bi), ("bool", .bi)]
noncomputable def c0__law_is : SC := { N := ["_law_told", "_law_due", "_law_k"], sc := defScope s__law_is, fnc := fun _ => true, G := fun y => g0__law_is.lookup y }
noncomputable def r__law_is : Nat → List D → M D
  | 0 => runB 3 (evB c0__law_is (defBody s__law_is))
  | k + 1 => runB 3 (Row.b__law_is (r__law_is k))
noncomputable def g__law_is (k : Nat) : List (Str × GI) := ("_law_is", .fn 2 (r__law_is k)) :: g0__law_is
noncomputable def c__law_is (k : Nat) : SC := { N := ["_law_told", "_law_due", "_law_k"], sc := defScope s__law_is, fnc := fun _ => true, G := fun y => (g__law_is k).lookup y }
theorem eq__law_is (k : Nat) : evB (c__law_is k) (defBody s__law_is) = Row.b__law_is (r__law_is k) := by rfl
/-! _law_near -/
abbrev s__law_near : Stmt := top 27
noncomputable def g__law_near : List (Str × GI) := [("len", .bi), ("range", .bi)]
noncomputable def c__law_near : SC := { N := ["_law_one", "_law_other", "_law_k"], sc := defScope s__law_near, fnc := fun _ => true, G := fun y => g__law_near.lookup y }
theorem eq__law_near : evB c__law_near (defBody s__law_near) = Row.b__law_near := by rfl
/-! _law_parts -/
abbrev s__law_parts : Stmt := top 28
noncomputable def g__law_parts : List (Str × GI) := [("list", .bi), ("len", .bi), ("_law_near", .fn 2 Row.r__law_near), ("tuple", .bi), ("sorted", .bi)]
noncomputable def c__law_parts : SC := { N := ["_law_lot_here", "_law_left", "_law_found", "_law_part", "_law_at", "_law_more", "_law_row"], sc := defScope s__law_parts, fnc := fun _ => true, G := fun y => g__law_parts.lookup y }
theorem eq__law_parts : evB c__law_parts (defBody s__law_parts) = Row.b__law_parts := by rfl
/-! _law_mixed -/
abbrev s__law_mixed : Stmt := top 30
noncomputable def g__law_mixed : List (Str × GI) := [("list", .bi), ("range", .bi), ("len", .bi), ("_law_draw", .fn 2 r__law_draw)]
noncomputable def c__law_mixed : SC := { N := ["_law_pot_here", "_law_things", "_law_left", "_law_turn"], sc := defScope s__law_mixed, fnc := fun _ => true, G := fun y => g__law_mixed.lookup y }
noncomputable def b__law_mixed : Ev → S := (seqS (asgS (.one 2) (callM listD (consM (varD 1) (fun _ => M.pure []))))
  (seqS (retS (compM [3] (.one 3) (rngM 1 (consM (callM lenD (consM (varD 2) (fun _ => M.pure []))) (fun _ => M.pure []))) (fun _ => M.pure true) (methM "list" popAtD (varD 2) (consM (callF 2 r__law_draw (consM (varD 0) (consM (callM lenD (consM (varD 2) (fun _ => M.pure []))) (fun _ => M.pure [])))) (fun _ => M.pure [])))))
  nextS))
noncomputable def r__law_mixed : List D → M D := runB 4 b__law_mixed
theorem eq__law_mixed : evB c__law_mixed (defBody s__law_mixed) = b__law_mixed := by rfl
/-! _law_led -/
abbrev s__law_led : Stmt := top 31
noncomputable def g__law_led : List (Str × GI) := [("tuple", .bi)]
noncomputable def c__law_led : SC := { N := ["_law_rows", "_law_order", "_law_names", "_law_row", "_law_place"], sc := defScope s__law_led, fnc := fun _ => true, G := fun y => g__law_led.lookup y }
noncomputable def b__law_led : Ev → S := (seqS (retS (compM [3] (.one 3) (seqM (varD 0)) (fun _ => M.pure true) (callM tupleD (consM (compM [4] (.one 4) (seqM (varD 1)) (fun _ => M.pure true) (op2 ixD (op2 ixD (varD 2) (varD 4)) (op2 ixD (varD 3) (varD 4)))) (fun _ => M.pure [])))))
  nextS)
noncomputable def r__law_led : List D → M D := runB 5 b__law_led
theorem eq__law_led : evB c__law_led (defBody s__law_led) = b__law_led := by rfl
/-! law -/
abbrev s_law : Stmt := top 32
noncomputable def g_law : List (Str × GI) := [("_law_pot", .fn 1 r__law_pot), ("range", .bi), ("_law_draw", .fn 2 r__law_draw), ("_law_lot", .fn 4 Row.r__law_lot), ("_law_any", .fn 2 r__law_any), ("parts", .fn 1 r_parts), ("list", .bi), ("_law_is", .fn 2 (r__law_is 8)), ("_law_parts", .fn 1 Row.r__law_parts), ("sorted", .bi), ("all", .bi), ("_law_mixed", .fn 2 r__law_mixed), ("tuple", .bi), ("_law_led", .fn 3 r__law_led)]
noncomputable def c_law : SC := { N := ["_law_script", "_law_pot_here", "_law_turn", "_law_many", "_law_values", "_law_lot_here", "_law_told", "_law_rows", "_law_part", "_law_some", "_law_names", "_law_order", "_law_due", "_law_place"], sc := defScope s_law, fnc := fun _ => true, G := fun y => g_law.lookup y }
noncomputable def b_law : Ev → S := (seqS (asgS (.one 1) (callF 1 r__law_pot (consM (varD 0) (fun _ => M.pure []))))
  (seqS (loopS (.one 2) (rngM 1 (consM (fun _ => M.pure (.int 3)) (fun _ => M.pure [])))
  (seqS (asgS (.many [3, 4]) (tupM (consM (op2 (binD .Add) (fun _ => M.pure (.int 3)) (callF 2 r__law_draw (consM (varD 1) (consM (fun _ => M.pure (.int 3)) (fun _ => M.pure []))))) (consM (op2 (binD .Add) (fun _ => M.pure (.int 2)) (callF 2 r__law_draw (consM (varD 1) (consM (fun _ => M.pure (.int 3)) (fun _ => M.pure []))))) (fun _ => M.pure [])))))
  (seqS (asgS (.one 5) (callF 4 Row.r__law_lot (consM (varD 1) (consM (varD 3) (consM (varD 4) (consM (callF 2 r__law_any (consM (varD 1) (consM (lstM (consM (fun _ => M.pure (.int 4)) (consM (fun _ => M.pure (.int 12)) (consM (fun _ => M.pure (.int 40)) (fun _ => M.pure []))))) (fun _ => M.pure [])))) (fun _ => M.pure [])))))))
  (seqS (asgS (.one 6) (callF 1 r_parts (consM (varD 5) (fun _ => M.pure []))))
  (seqS (asgS (.one 7) (lstM (fun _ => M.pure [])))
  (seqS (loopS (.one 8) (seqM (varD 6))
  (seqS (dropS (methM "list" extendD (varD 7) (consM (callM listD (consM (varD 8) (fun _ => M.pure []))) (fun _ => M.pure []))))
  nextS))
  (seqS (ifS (orM (notM (truth (callF 2 (r__law_is 8) (consM (varD 6) (consM (callF 1 Row.r__law_parts (consM (varD 5) (fun _ => M.pure []))) (fun _ => M.pure [])))))) (asTest (op2 (cmpD .NotEq) (callM sortD (consM (varD 7) (fun _ => M.pure []))) (callM listD (consM (varD 5) (fun _ => M.pure []))))))
  (seqS (retS (fun _ => M.pure (.bl false)))
  nextS)
  nextS)
  (seqS (ifS (notM (truth (callM allD (consM (compM [8] (.one 8) (seqM (varD 6)) (fun _ => M.pure true) (callF 2 (r__law_is 8) (consM (callF 1 r_parts (consM (varD 8) (fun _ => M.pure []))) (consM (lstM (consM (varD 8) (fun _ => M.pure []))) (fun _ => M.pure []))))) (fun _ => M.pure [])))))
  (seqS (retS (fun _ => M.pure (.bl false)))
  nextS)
  nextS)
  (seqS (asgS (.one 9) (callF 2 r__law_any (consM (varD 1) (consM (lstM (consM (lstM (consM (fun _ => M.pure (.int 0)) (consM (fun _ => M.pure (.int 1)) (consM (fun _ => M.pure (.int 2)) (consM (fun _ => M.pure (.int 3)) (fun _ => M.pure [])))))) (consM (lstM (consM (negV (op2 (binD .Pow) (fun _ => M.pure (.int 10)) (fun _ => M.pure (.int 29)))) (consM (fun _ => M.pure (.int 0)) (consM (fun _ => M.pure (.int 7)) (consM (op2 (binD .Pow) (fun _ => M.pure (.int 10)) (fun _ => M.pure (.int 29))) (fun _ => M.pure [])))))) (consM (lstM (consM (fun _ => M.pure (.int 9999)) (consM (fun _ => M.pure (.int 3)) (consM (op2 (binD .Pow) (fun _ => M.pure (.int 10)) (fun _ => M.pure (.int 4))) (consM (negV (fun _ => M.pure (.int 1))) (fun _ => M.pure [])))))) (fun _ => M.pure []))))) (fun _ => M.pure [])))))
  (seqS (asgS (.many [10, 11]) (tupM (consM (compM [13] (.one 13) (rngM 1 (consM (varD 3) (fun _ => M.pure []))) (fun _ => M.pure true) (callF 2 r__law_mixed (consM (varD 1) (consM (varD 9) (fun _ => M.pure []))))) (consM (callF 2 r__law_mixed (consM (varD 1) (consM (lstRg (varD 3)) (fun _ => M.pure [])))) (fun _ => M.pure [])))))
  (seqS (asgS (.one 12) (callM sortD (consM (compM [8] (.one 8) (seqM (varD 6)) (fun _ => M.pure true) (callM tupleD (consM (callM sortD (consM (callF 3 r__law_led (consM (varD 8) (consM (varD 11) (consM (varD 10) (fun _ => M.pure []))))) (fun _ => M.pure []))) (fun _ => M.pure [])))) (fun _ => M.pure []))))
  (seqS (ifS (notM (truth (callF 2 (r__law_is 8) (consM (callF 1 r_parts (consM (callM tupleD (consM (callM sortD (consM (callF 3 r__law_led (consM (varD 5) (consM (varD 11) (consM (varD 10) (fun _ => M.pure []))))) (fun _ => M.pure []))) (fun _ => M.pure []))) (fun _ => M.pure []))) (consM (varD 12) (fun _ => M.pure []))))))
  (seqS (retS (fun _ => M.pure (.bl false)))
  nextS)
  nextS)
  nextS))))))))))))
  (seqS (retS (fun _ => M.pure (.bl true)))
  nextS)))
noncomputable def r_law : List D → M D := runB 14 b_law
theorem eq_law : evB c_law (defBody s_law) = b_law := by rfl
end DL.K05
set_option Elab.async false
set_option linter.all false
set_option maxRecDepth 100000
set_option maxHeartbeats 4000000
namespace DL.K05
open PySem PySem.Spec PyProof.Rows L2 DL DL.Row

section
variable {hs h : Hs} {p many : Nat} {rs : List (List Int)}
/-! ## parts -/
theorem parts_ok {Q : Except Ex D → Hs → Prop} (L : Lot many rs) (hf : rs.length ≤ 100) (hh : ∀ a ∈ rs, ∀ b ∈ rs, hash0 (kI a) = hash0 (kI b) → a = b) (q : ∀ l ps h, hs.length ≤ l → cell h l = some (.lst (ps.map tupR)) → IsParts rs ps → Gr [] hs h → Q (.ok (.loc l)) h) : Wp (r_parts [tupR rs] hs) Q := by
  unfold r_parts b_parts
  simp
  refine check_lot_ok L fun ha ga => ?_
  simp
  refine raw_parts_ok L hf hh fun l ps hb hl hc hP gb => ?_
  simp
  exact q l ps hb (by have := ga.le; omega) hc hP (ga.trans gb)
/-! ## _law_mixed -/
theorem wp_popAt {n : Nat} {xs : List D} {j : Nat} {y : D} {Q : D → Hs → Prop} (hc : cell h n = some (.lst xs)) (hy : xs[j]? = some y) (hz : xs.length ≤ 1000) (q : Q y (h.set n (.lst (xs.eraseIdx j)))) : Wp (popAtD (.loc n) [.int (j : Nat)] h) Q := by
  have hl := (List.getElem?_eq_some_iff.mp hy).1
  rw [← cell_eq] at hc
  unfold popAtD
  simp only [hc]
  rw [if_pos ⟨by omega, by omega, by omega⟩]
  rw [Int.toNat_natCast, hy]
  exact q
theorem erase_perm {α : Type} : ∀ {ks : List α} {j : Nat} (hj : j < ks.length), ([ks[j]] ++ ks.eraseIdx j).Perm ks
  | x :: ks, 0, _ => by simp
  | x :: ks, j + 1, hj => by
    have ih := erase_perm (ks := ks) (j := j) (by simpa using hj)
    simp only [List.getElem_cons_succ, List.eraseIdx_cons_succ]
    exact (List.Perm.swap _ _ _).trans (ih.cons x)
theorem erase_map {α β : Type} (f : α → β) : ∀ (ks : List α) (j : Nat), (ks.map f).eraseIdx j = (ks.eraseIdx j).map f
  | [], _ => rfl
  | x :: ks, 0 => rfl
  | x :: ks, j + 1 => by simp [erase_map f ks j]
def MX (p c : Nat) (is : List Int) (hs : Hs) (i : Nat) (acc : List D) (h : Hs) : Prop := ∃ js ks : List Int, acc = js.map .int ∧ js.length = i ∧ (js ++ ks).Perm is ∧ cell h c = some (.lst (ks.map .int)) ∧ Pg p hs h
theorem mixed_ok {Q : Except Ex D → Hs → Prop} {n : Nat} {is : List Int} (hp : Pot p hs) (hc : cell hs n = some (.lst (is.map .int))) (hn : is.length ≤ 100) (q : ∀ l (js : List Int) h', hs.length ≤ l → cell h' l = some (.lst (js.map D.int)) → js.Perm is → Pg p hs h' → Q (.ok (.loc l)) h') : Wp (r__law_mixed [.loc p, .loc n] hs) Q := by
  unfold r__law_mixed b__law_mixed
  rw [wp_run]
  simp only [wp_seq]
  simp [hc]
  have pl := hp.lt
  have c0 : cell (hs ++ [O.lst (is.map .int)]) hs.length = some (.lst (is.map .int)) := cell_push
  have G0 : Pg p hs (hs ++ [O.lst (is.map .int)]) := .push hp
  obtain ⟨c, hcc⟩ : ∃ c, c = hs.length := ⟨_, rfl⟩
  rw [← hcc] at c0 ⊢
  generalize hs ++ [O.lst (is.map .int)] = h0 at *
  refine ⟨by omega, ?_⟩
  refine wp_comp (MX p c is hs) ⟨[], is, rfl, rfl, .refl _, c0, G0⟩ ?_ ?_
  · rintro i d acc h hi ⟨js, ks, rfl, hj, pm, hk, G⟩
    obtain ⟨il, rfl⟩ := intL_at hi
    have lk : ks.length = is.length - i := by have := pm.length_eq; simp at this; omega
    refine ⟨trivial, ?_⟩
    simp [hk]
    refine draw_ok G.pot (by omega) (smR (by omega) (by omega)) fun v h1 v0 v1 g1 => ?_
    obtain ⟨j, rfl⟩ : ∃ j : Nat, v = (j : Int) := ⟨v.toNat, by omega⟩
    have hk1 := g1.get hk (by omega)
    have jl : j < ks.length := by omega
    simp
    refine wp_popAt hk1 (by rw [List.getElem?_map, List.getElem?_eq_getElem jl]; rfl) (by simp; omega) ?_
    refine ⟨small1000 (by first | omega | (simp; omega)), js ++ [ks[j]], ks.eraseIdx j, by simp, by simp [hj], ?_, ?_, ?_⟩
    · rw [List.append_assoc]
      exact ((List.perm_append_left_iff js).mpr (erase_perm jl)).trans pm
    · rw [cell_set_self (cell_lt hk1), erase_map]
    · exact (G.trans g1).set (by omega) (by omega)
  · rintro acc h ⟨js, ks, rfl, hj, pm, hk, G⟩
    rw [intL_len] at hj
    have : ks = [] := by
      have := pm.length_eq
      simp at this
      exact List.length_eq_zero_iff.mp (by omega)
    subst this
    rw [List.append_nil] at pm
    refine ⟨trivial, ?_⟩
    exact q _ js _ (by have := G.gr.le; omega) cell_push pm (G.trans (.push G.pot))
/-! ## _law_led -/
abbrev Nm := Nat × List Int
def val (NM : List Nm) (r : List Int) (k : Nat) : Int := (NM.getD k (0, [])).2.getD (r.getD k 0).toNat 0
def led (NM : List Nm) (ord : List Nat) (r : List Int) : List Int := ord.map (val NM r)
structure NmOk (many : Nat) (NM : List Nm) (ord : List Nat) (hs : Hs) (o nl : Nat) : Prop where
  len : NM.length = many
  four : ∀ x ∈ NM, x.2.length = 4
  cells : ∀ x ∈ NM, cell hs x.1 = some (.lst (x.2.map .int))
  ords : ∀ k ∈ ord, k < many
  oc : cell hs o = some (.lst (ord.map fun (k : Nat) => D.int k))
  nc : cell hs nl = some (.lst (NM.map fun x => D.loc x.1))
  olen : ord.length = many
theorem NmOk.gr {NM : List Nm} {ord : List Nat} {o nl : Nat} (N : NmOk many NM ord hs o nl) (g : Gr [] hs h) : NmOk many NM ord h o nl := ⟨N.len, N.four, fun x hx => g.get (N.cells x hx) (by simp), N.ords, g.get N.oc (by simp), g.get N.nc (by simp), N.olen⟩
def valG (NM : List Nm) (r : List Int) : D → Option D
  | .int k => some (.int (val NM r k.toNat))
  | _ => none
theorem valG_all (NM : List Nm) (r : List Int) : ∀ ord : List Nat, (ord.map fun (k : Nat) => D.int k).filterMap (valG NM r) = (led NM ord r).map .int
  | [] => rfl
  | k :: ord => by
    rw [List.map_cons, List.filterMap_cons, valG_all NM r ord]
    simp only [valG, Int.toNat_natCast]
    rfl
def ledG (NM : List Nm) (ord : List Nat) (d : D) : Option D := match rowOf d with
  | some r => some (tupI (led NM ord r))
  | none => none
theorem ledG_all (NM : List Nm) (ord : List Nat) : ∀ rs : List (List Int), (rs.map tupI).filterMap (ledG NM ord) = (rs.map (led NM ord)).map tupI
  | [] => rfl
  | r :: rs => by
    rw [List.map_cons, List.filterMap_cons, ledG_all NM ord rs]
    simp only [ledG, rowOf_row]
    rfl
theorem led_ok {Q : Except Ex D → Hs → Prop} {NM : List Nm} {ord : List Nat} {o nl : Nat} (N : NmOk many NM ord hs o nl) (hm : many ≤ 5) (hf : rs.length ≤ 100) (hr : ∀ r ∈ rs, r.length = many ∧ ∀ x ∈ r, 0 ≤ x ∧ x < 4) (q : ∀ l h, hs.length ≤ l → cell h l = some (.lst ((rs.map (led NM ord)).map tupI)) → Gr [] hs h → Q (.ok (.loc l)) h) : Wp (r__law_led [tupR rs, .loc o, .loc nl] hs) Q := by
  unfold r__law_led b__law_led
  rw [wp_run]
  simp only [wp_seq]
  simp [tupR]
  refine wp_comp_grow [] (ledG NM ord) (fun _ _ => trivial) (by simpa using by omega) (fun d h hd g => ?_) fun h g => ?_
  · obtain ⟨r, hrm, rfl⟩ := List.mem_map.mp hd
    have Nh := N.gr g
    have rg := hr r hrm
    simp
    refine ⟨_, Nh.oc, ?_⟩
    refine wp_comp_grow [] (valG NM r) (fun h1 g1 => g1.get Nh.oc (by simp)) (by simp; have := N.olen; omega) (fun d h1 hd1 g1 => ?_) fun h1 g1 => ?_
    · obtain ⟨k, hk, rfl⟩ := List.mem_map.mp hd1
      have N1 := Nh.gr g1
      have km := N.ords k hk
      have kl : k < NM.length := by rw [N.len]; exact km
      have kr : k < r.length := by rw [rg.1]; exact km
      have xk := rg.2 r[k] (List.getElem_mem kr)
      have x4 := N.four NM[k] (List.getElem_mem kl)
      simp
      refine ⟨_, N1.nc, .loc NM[k].1, ?_, ?_⟩
      · rw [atI_lit, List.getElem?_map, List.getElem?_eq_getElem kl]; rfl
      rw [tupI_eq]
      simp
      refine ⟨.int r[k], ?_, ?_⟩
      · rw [atI_lit, List.getElem?_map, List.getElem?_eq_getElem kr]; rfl
      simp
      have jl : r[k].toNat < NM[k].2.length := by omega
      refine ⟨_, N1.cells NM[k] (List.getElem_mem kl), .int NM[k].2[r[k].toNat], atI_nat (by rw [List.getElem?_map, List.getElem?_eq_getElem jl]; rfl) xk.1, ?_⟩
      simp [valG, val, List.getD_eq_getElem?_getD, List.getElem?_eq_getElem kl, List.getElem?_eq_getElem kr, List.getElem?_eq_getElem jl]
      exact .refl
    · rw [valG_all]
      refine ⟨?_, g1.trans .push⟩
      simp only [ledG, rowOf_row]
      rfl
  · rw [ledG_all]
    simp
    exact q _ _ (by have := g.le; omega) (by rw [List.map_map]; exact cell_push) (g.trans .push)
end
end DL.K05
set_option Elab.async false
set_option linter.all false
set_option maxRecDepth 100000
set_option maxHeartbeats 4000000
namespace DL.K05
open PySem PySem.Spec PyProof.Rows L2 DL DL.Row

/-! ## rows led to other rows -/
def Good (many : Nat) (r : List Int) : Prop := r.length = many ∧ ∀ x ∈ r, 0 ≤ x ∧ x < 4
structure Ren (many : Nat) (NM : List Nm) (ord : List Nat) : Prop where
  len : NM.length = many
  four : ∀ x ∈ NM, x.2.length = 4
  nod : ∀ x ∈ NM, x.2.Nodup
  pm : ord.Perm (List.range many)
section
variable {many : Nat} {NM : List Nm} {ord : List Nat} {r s t : List Int} {rs : List (List Int)}
theorem Ren.olen (N : Ren many NM ord) : ord.length = many := by rw [N.pm.length_eq]; simp
theorem Ren.lt (N : Ren many NM ord) {k : Nat} (h : k ∈ ord) : k < many := by simpa using N.pm.mem_iff.mp h
theorem Ren.at_ (N : Ren many NM ord) {k : Nat} (h : k < many) : ∃ j, j < many ∧ ord[j]? = some k := by
  obtain ⟨j, hj⟩ := List.mem_iff_getElem?.mp (N.pm.mem_iff.mpr (List.mem_range.mpr h))
  exact ⟨j, by rw [← N.olen]; exact (List.getElem?_eq_some_iff.mp hj).1, hj⟩
theorem Ren.get (N : Ren many NM ord) {j : Nat} (h : j < many) : ∃ k, k < many ∧ ord[j]? = some k := by
  have : j < ord.length := by rw [N.olen]; exact h
  exact ⟨ord[j], N.lt (List.getElem_mem this), List.getElem?_eq_getElem this⟩
theorem led_len (N : Ren many NM ord) : (led NM ord r).length = many := by rw [led, List.length_map, N.olen]
theorem led_get {j k : Nat} (h : ord[j]? = some k) : (led NM ord r)[j]? = some (val NM r k) := by rw [led, List.getElem?_map, h]; rfl
theorem val_get (N : Ren many NM ord) (hr : Good many r) {k : Nat} (hk : k < many) : ∃ x v, r[k]? = some x ∧ 0 ≤ x ∧ x < 4 ∧ NM[k]? = some v ∧ val NM r k = v.2.getD x.toNat 0 := by
  have kl : k < NM.length := by rw [N.len]; exact hk
  have kr : k < r.length := by rw [hr.1]; exact hk
  have xk := hr.2 r[k] (List.getElem_mem kr)
  exact ⟨r[k], NM[k], List.getElem?_eq_getElem kr, xk.1, xk.2, List.getElem?_eq_getElem kl, by simp [val, List.getD_eq_getElem?_getD, List.getElem?_eq_getElem kl, List.getElem?_eq_getElem kr]⟩
theorem val_iff (N : Ren many NM ord) (hr : Good many r) (hs : Good many s) {k : Nat} (hk : k < many) : val NM r k = val NM s k ↔ r[k]? = s[k]? := by
  obtain ⟨x, v, e1, x0, x4, e2, e3⟩ := val_get N hr hk
  obtain ⟨y, v', f1, y0, y4, f2, f3⟩ := val_get N hs hk
  rw [e2] at f2
  cases f2
  rw [e3, f3, e1, f1]
  have hm := List.mem_of_getElem? e2
  have l4 := N.four v hm
  have nd := N.nod v hm
  have lx : x.toNat < v.2.length := by omega
  have ly : y.toNat < v.2.length := by omega
  constructor
  · intro h
    rw [List.getD_eq_getElem?_getD, List.getD_eq_getElem?_getD, List.getElem?_eq_getElem lx, List.getElem?_eq_getElem ly] at h
    have := (List.getElem?_inj (i := x.toNat) (j := y.toNat) lx nd).mp (by rw [List.getElem?_eq_getElem lx, List.getElem?_eq_getElem ly]; exact congrArg some h)
    congr 1
    omega
  · intro h
    cases h
    rfl
theorem led_iff (N : Ren many NM ord) (hr : Good many r) (hs : Good many s) {j k : Nat} (h : ord[j]? = some k) : (led NM ord r)[j]? = (led NM ord s)[j]? ↔ r[k]? = s[k]? := by
  rw [led_get h, led_get h, Option.some.injEq, val_iff N hr hs (N.lt (List.mem_of_getElem? h))]
theorem out {a b : List Int} {j : Nat} (ha : a.length = many) (hb : b.length = many) (h : ¬ j < many) : a[j]? = b[j]? := by
  rw [List.getElem?_eq_none (by omega), List.getElem?_eq_none (by omega)]
theorem led_inj (N : Ren many NM ord) (hr : Good many r) (hs : Good many s) (h : led NM ord r = led NM ord s) : r = s := by
  apply List.ext_getElem?
  intro k
  by_cases c : k < many
  · obtain ⟨j, _, hj⟩ := N.at_ c
    exact (led_iff N hr hs hj).mp (by rw [h])
  · exact out hr.1 hs.1 c
theorem nr_iff {a b : List Int} (ha : a.length = many) (hb : b.length = many) : nr a b ↔ a ≠ b ∧ ∃ i, i < many ∧ ∀ j, j ≠ i → a[j]? = b[j]? := by
  unfold nr
  refine and_congr .rfl ⟨fun ⟨i, h1, h2⟩ => ⟨i, by omega, (rest_eq h1 (by omega)).mp h2⟩, fun ⟨i, h1, h2⟩ => ⟨i, by omega, (rest_eq (by omega) (by omega)).mpr h2⟩⟩
theorem led_nr (N : Ren many NM ord) (hr : Good many r) (hs : Good many s) : nr (led NM ord r) (led NM ord s) ↔ nr r s := by
  rw [nr_iff (led_len N) (led_len N), nr_iff hr.1 hs.1]
  have ndo : ord.Nodup := N.pm.nodup_iff.mpr List.nodup_range
  constructor
  · rintro ⟨h1, i, h2, h3⟩
    obtain ⟨k, hk, ek⟩ := N.get h2
    refine ⟨fun e => h1 (by rw [e]), k, hk, fun j hj => ?_⟩
    by_cases c : j < many
    · obtain ⟨i', _, hi'⟩ := N.at_ c
      refine (led_iff N hr hs hi').mp (h3 i' fun e => hj ?_)
      rw [e, ek] at hi'
      exact (Option.some.inj hi').symm
    · exact out hr.1 hs.1 c
  · rintro ⟨h1, k, hk, h3⟩
    obtain ⟨i, hi, ei⟩ := N.at_ hk
    refine ⟨fun e => h1 (led_inj N hr hs e), i, hi, fun j hj => ?_⟩
    by_cases c : j < many
    · obtain ⟨k', _, ek'⟩ := N.get c
      refine (led_iff N hr hs ek').mpr (h3 k' fun e => hj ?_)
      rw [e, ← ei] at ek'
      have jl : j < ord.length := by rw [N.olen]; exact c
      exact (List.getElem?_inj jl ndo).mp ek'
    · exact out (led_len N) (led_len N) c
/-- the lot led -/
def ledLot (NM : List Nm) (ord : List Nat) (rs : List (List Int)) : List (List Int) := usortR (rs.map (led NM ord))
theorem mem_led : t ∈ ledLot NM ord rs ↔ ∃ r ∈ rs, t = led NM ord r := by
  unfold ledLot
  rw [usortR_mem, List.mem_map]
  exact ⟨fun ⟨r, h, e⟩ => ⟨r, h, e.symm⟩, fun ⟨r, h, e⟩ => ⟨r, h, e.symm⟩⟩
theorem led_lot (N : Ren many NM ord) (L : Lot many rs) : Lot many (ledLot NM ord rs) := by
  refine usortR_lot (fun e => L.some_ (List.map_eq_nil_iff.mp e)) (fun r hr => ?_) L.lo L.hi (by have := L.few; simpa using this)
  obtain ⟨s, _, rfl⟩ := List.mem_map.mp hr
  exact led_len N
theorem comp_led (N : Ren many NM ord) (hg : ∀ r ∈ rs, Good many r) (h : Comp rs r s) : Comp (ledLot NM ord rs) (led NM ord r) (led NM ord s) := by
  obtain ⟨n, w⟩ := h
  induction w with
  | nil ha => exact .refl (mem_led.mpr ⟨_, ha, rfl⟩)
  | snoc w hb hc hn ih => exact ih.near (mem_led.mpr ⟨_, hc, rfl⟩) ((led_nr N (hg _ hb) (hg _ hc)).mpr hn)
theorem comp_back (N : Ren many NM ord) (hg : ∀ r ∈ rs, Good many r) (hr : r ∈ rs) (h : Comp (ledLot NM ord rs) (led NM ord r) t) : ∃ s, t = led NM ord s ∧ Comp rs r s := by
  obtain ⟨n, w⟩ := h
  generalize ha : led NM ord r = a at w
  induction w with
  | nil _ => exact ⟨r, ha.symm, .refl hr⟩
  | snoc w hb hc hn ih =>
    obtain ⟨s, rfl, cs⟩ := ih
    obtain ⟨c, hc', rfl⟩ := mem_led.mp hc
    exact ⟨c, rfl, cs.near hc' ((led_nr N (hg _ cs.right) (hg _ hc')).mp hn)⟩
theorem led_parts (N : Ren many NM ord) (L : Lot many rs) (hg : ∀ r ∈ rs, Good many r) {ps qs : List (List (List Int))} (P : IsParts rs ps) (pm : qs.Perm (ps.map (ledLot NM ord))) (up : qs.Pairwise (· < ·)) : IsParts (ledLot NM ord rs) qs := by
  have M : ∀ q, q ∈ qs ↔ ∃ p ∈ ps, q = ledLot NM ord p := fun q => by
    rw [pm.mem_iff, List.mem_map]
    exact ⟨fun ⟨p, h, e⟩ => ⟨p, h, e.symm⟩, fun ⟨p, h, e⟩ => ⟨p, h, e.symm⟩⟩
  refine ⟨up, fun q hq => ?_, fun q hq => ?_, fun q hq a ha b => ?_, fun q hq a ha => ?_, fun a ha => ?_⟩
  · obtain ⟨p, hp, rfl⟩ := (M q).mp hq
    exact usortR_some fun e => P.ne p hp (List.map_eq_nil_iff.mp e)
  · obtain ⟨p, hp, rfl⟩ := (M q).mp hq
    exact usortR_sorted
  · obtain ⟨p, hp, rfl⟩ := (M q).mp hq
    obtain ⟨r, hr, rfl⟩ := mem_led.mp ha
    have rr := P.sub p hp r hr
    constructor
    · intro hb
      obtain ⟨s, hs, rfl⟩ := mem_led.mp hb
      exact comp_led N hg ((P.mem p hp r hr s).mp hs)
    · intro hc
      obtain ⟨s, rfl, cs⟩ := comp_back N hg rr hc
      exact mem_led.mpr ⟨s, (P.mem p hp r hr s).mpr cs, rfl⟩
  · obtain ⟨p, hp, rfl⟩ := (M q).mp hq
    obtain ⟨r, hr, rfl⟩ := mem_led.mp ha
    exact mem_led.mpr ⟨r, P.sub p hp r hr, rfl⟩
  · obtain ⟨r, hr, rfl⟩ := mem_led.mp ha
    obtain ⟨p, hp, h⟩ := P.all_ r hr
    exact ⟨_, (M _).mpr ⟨p, hp, rfl⟩, mem_led.mpr ⟨r, h, rfl⟩⟩
theorem led_nodup (N : Ren many NM ord) (hg : ∀ r ∈ rs, Good many r) {ps : List (List (List Int))} (P : IsParts rs ps) : (ps.map (ledLot NM ord)).Nodup := by
  have nd : ps.Nodup := P.up.imp fun {a b} (h : a < b) (e : a = b) => irr_P a (by subst e; exact h)
  refine List.pairwise_map.mpr (List.Pairwise.imp_of_mem (fun {p q} hp hq h e => h ?_) nd)
  obtain ⟨r, hr⟩ : ∃ r, r ∈ p := by
    cases p with
    | nil => exact absurd rfl (P.ne _ hp)
    | cons x _ => exact ⟨x, by simp⟩
  have : led NM ord r ∈ ledLot NM ord q := by rw [← e]; exact mem_led.mpr ⟨r, hr, rfl⟩
  obtain ⟨s, hs, es⟩ := mem_led.mp this
  have := led_inj N (hg r (P.sub p hp r hr)) (hg s (P.sub q hq s hs)) es
  subst this
  exact rows_one (P.srt p hp) (P.srt q hq) fun k => by rw [P.mem p hp r hr, P.mem q hq r hs]
/-- one part alone -/
theorem part_alone (hL : ∀ r ∈ rs, r.length = many) {ps : List (List (List Int))} (P : IsParts rs ps) {p : List (List Int)} (hp : p ∈ ps) : IsParts p [p] := by
  have key : ∀ {a b n}, Wlk rs a b n → a ∈ p → Comp p a b ∧ b ∈ p := by
    intro a b n w ha
    induction w with
    | nil _ => exact ⟨.refl ha, ha⟩
    | snoc w hb hc hn ih =>
      obtain ⟨h1, h2⟩ := ih
      have hcp : _ ∈ p := (P.mem p hp _ h2 _).mpr ((Comp.refl hb).near hc hn)
      exact ⟨h1.near hcp hn, hcp⟩
  refine ⟨by simp, fun q hq => ?_, fun q hq => ?_, fun q hq r hr s => ?_, fun q hq r hr => ?_, fun r hr => ⟨p, by simp, hr⟩⟩
  all_goals rw [List.mem_singleton.mp hq] at *
  · exact P.ne p hp
  · exact P.srt p hp
  · constructor
    · intro hs
      obtain ⟨n, w⟩ := (P.mem p hp r hr s).mp hs
      exact (key w hr).1
    · exact fun h => h.right
  · exact hr
end
end DL.K05
set_option Elab.async false
set_option linter.all false
set_option maxRecDepth 100000
set_option maxHeartbeats 4000000
namespace DL.K05
open PySem PySem.Spec PyProof.Rows L2 DL DL.Row

section
variable {hs h : Hs} {p many : Nat} {rs : List (List Int)} {ps : List (List (List Int))}
/-! ## lists told -/
theorem ty_lst {n : Nat} {xs : List D} (hc : cell hs n = some (.lst xs)) : tyD hs (.loc n) = some "list" := by
  rw [← cell_eq] at hc
  unfold tyD
  simp only [hc]
theorem is_lst {me : List D → M D} {n m : Nat} {xs : List D} {Q : Except Ex D → Hs → Prop} (h1 : cell hs n = some (.lst xs)) (h2 : cell hs m = some (.lst xs)) (hl : xs.length ≤ 1000) (ih : ∀ x ∈ xs, IsOk me x) (q : ∀ h, Gr [] hs h → Q (.ok (.bl true)) h) : Wp (runB 3 (b__law_is me) [.loc n, .loc m] hs) Q := by
  have t1 : ∀ {Q : D → Hs → Prop}, Wp (isiD [.loc n, .ty "tuple"] hs) Q = Q (.bl false) hs := isi_of (ty_lst h1) (by decide +kernel)
  have t2 : ∀ {Q : D → Hs → Prop}, Wp (isiD [.loc m, .ty "tuple"] hs) Q = Q (.bl false) hs := isi_of (ty_lst h2) (by decide +kernel)
  have t3 : ∀ {Q : D → Hs → Prop}, Wp (isiD [.loc n, .ty "list"] hs) Q = Q (.bl true) hs := isi_of (ty_lst h1) (by decide +kernel)
  have t4 : ∀ {Q : D → Hs → Prop}, Wp (isiD [.loc m, .ty "list"] hs) Q = Q (.bl true) hs := isi_of (ty_lst h2) (by decide +kernel)
  have t5 : ∀ {Q : D → Hs → Prop}, Wp (isiD [.loc m, .tup [.ty "tuple", .ty "list"]] hs) Q = Q (.bl true) hs := isi_ofs (ty_lst h2) (by decide +kernel)
  unfold b__law_is
  simp [t1, t2, t3, t4, t5, -isi_loc_tuple, -isi_loc_list, h1, h2]
  refine ⟨by omega, ?_⟩
  refine wp_comp_grow [] (fun _ => some (.bl true)) (fun _ _ => trivial) (by rw [intL_len]; exact hl) (fun d h hd g => ?_) fun h g => ?_
  · obtain ⟨j, hj⟩ := List.mem_iff_getElem?.mp hd
    obtain ⟨hjl, rfl⟩ := intL_at hj
    rw [Int.zero_add]
    simp [atI_lit, g.get h1 (by simp), g.get h2 (by simp)]
    refine ⟨_, List.getElem?_eq_getElem hjl, _, List.getElem?_eq_getElem hjl, ?_⟩
    refine ih _ (List.getElem_mem hjl) _ _ fun h1 g1 => ?_
    simp
    exact g1
  · rw [fm_true]
    simp
    exact q _ (g.trans .push)
theorem is_tupR {k : Nat} (L : Lot many rs) : IsOk (r__law_is (k + 3)) (tupR rs) := is_rows L.few fun r hr => by have := L.len r hr; have := L.hi; omega
theorem part_lot (L : Lot many rs) (P : IsParts rs ps) {q : List (List Int)} (hq : q ∈ ps) : Lot many q := by
  refine ⟨P.ne q hq, fun r hr => L.len r (P.sub q hq r hr), L.lo, L.hi, P.srt q hq, ?_⟩
  have nd : q.Nodup := (P.srt q hq).imp fun {a b} (h : a < b) (e : a = b) => row_irrefl a (by subst e; exact h)
  exact Nat.le_trans (nodup_sub nd (P.sub q hq)) L.few
theorem part_few (L : Lot many rs) (hf : rs.length ≤ 100) (P : IsParts rs ps) {q : List (List Int)} (hq : q ∈ ps) : q.length ≤ 100 := by
  have nd : q.Nodup := (P.srt q hq).imp fun {a b} (h : a < b) (e : a = b) => row_irrefl a (by subst e; exact h)
  exact Nat.le_trans (nodup_sub nd (P.sub q hq)) hf
theorem flat_nodup (P : IsParts rs ps) : ps.flatten.Nodup := by
  have nd : ps.Nodup := P.up.imp fun {a b} (h : a < b) (e : a = b) => irr_P a (by subst e; exact h)
  refine List.pairwise_flatten.mpr ⟨fun q hq => (P.srt q hq).imp fun {a b} (h : a < b) (e : a = b) => row_irrefl a (by subst e; exact h), List.Pairwise.imp_of_mem (fun {a b} ha hb ne x hx y hy e => ne ?_) nd⟩
  subst e
  exact rows_one (P.srt a ha) (P.srt b hb) fun k => by rw [P.mem a ha x hx, P.mem b hb x hy]
theorem flat_mem (P : IsParts rs ps) (r : List Int) : r ∈ ps.flatten ↔ r ∈ rs := by
  rw [List.mem_flatten]
  exact ⟨fun ⟨q, h1, h2⟩ => P.sub q h1 r h2, fun h => P.all_ r h⟩
theorem parts_few (L : Lot many rs) (hf : rs.length ≤ 100) (P : IsParts rs ps) : ps.length ≤ 100 := by
  have h1 := nodup_sub (flat_nodup P) fun r hr => (flat_mem P r).mp hr
  have h2 : ∀ qs : List (List (List Int)), (∀ q ∈ qs, q ≠ []) → qs.length ≤ qs.flatten.length := by
    intro qs
    induction qs with
    | nil => simp
    | cons q qs ih =>
      intro h
      have := ih fun x hx => h x (by simp [hx])
      have : 0 < q.length := List.length_pos_iff.mpr (h q (by simp))
      rw [List.length_cons, List.flatten_cons, List.length_append]
      omega
  have := h2 ps P.ne
  omega
theorem eqv_rows (a b : List (List Int)) : PyData.eqvAll (a.map pd) (b.map pd) = decide (a = b) := by
  induction a generalizing b with
  | nil => cases b <;> simp [PyData.eqvAll]
  | cons x a ih =>
    cases b with
    | nil => simp [PyData.eqvAll]
    | cons y b =>
      simp only [List.map_cons, PyData.eqvAll, eqv_row, ih, List.cons.injEq]
      by_cases c : x = y <;> simp [c]
/-! ## the turn's parts -/
/-- behind the lot and its parts -/
abbrev envQ (sc : D) (p many : Nat) (rs : List (List Int)) (tl : Nat) (x2 x4 x7 x8 x9 x10 x11 x12 x13 : Option D) : Ev := [some sc, some (.loc p), x2, some (.int (many : Nat)), x4, some (tupR rs), some (.loc tl), x7, x8, x9, x10, x11, x12, x13]
structure Tk (p many : Nat) (rs : List (List Int)) (ps : List (List (List Int))) (tl : Nat) (h : Hs) : Prop where
  pot : Pot p h
  lot : Lot many rs
  few : rs.length ≤ 100
  ent : ∀ r ∈ rs, ∀ x ∈ r, 0 ≤ x ∧ x < 4
  parts : IsParts rs ps
  tc : cell h tl = some (.lst (ps.map tupR))
  tp : tl ≠ p
theorem Tk.gr {tl : Nat} (T : Tk p many rs ps tl hs) (g : Gr [] hs h) : Tk p many rs ps tl h := ⟨T.pot.gr g, T.lot, T.few, T.ent, T.parts, g.get T.tc (by simp), T.tp⟩
theorem Tk.pg {tl : Nat} (T : Tk p many rs ps tl hs) (g : Pg p hs h) : Tk p many rs ps tl h := ⟨g.pot, T.lot, T.few, T.ent, T.parts, g.get T.tc T.tp, T.tp⟩
theorem hash_a (L : Lot many rs) (he : ∀ r ∈ rs, ∀ x ∈ r, 0 ≤ x ∧ x < 4) : ∀ a ∈ rs, ∀ b ∈ rs, hash0 (kI a) = hash0 (kI b) → a = b := by
  have M : ∀ n a, a ∈ rs → n = many → a ∈ tuplesOver [0, 1, 2, 3] n := fun n a ha hn => mem_over (by rw [hn]; exact L.len a ha) fun x hx => by
    have := he a ha x hx
    simp
    omega
  have l1 := L.lo
  have l2 := L.hi
  intro a ha b hb e
  rcases (show many = 3 ∨ many = 4 ∨ many = 5 by omega) with z | z | z
  · exact hk_inj ap_a3 (M 3 a ha z.symm) (M 3 b hb z.symm) e
  · exact hk_inj ap_a4 (M 4 a ha z.symm) (M 4 b hb z.symm) e
  · exact hk_inj ap_a5 (M 5 a ha z.symm) (M 5 b hb z.symm) e
/-- all rows, one behind another -/
def EI (sc : D) (p many : Nat) (rs : List (List Int)) (ps : List (List (List Int))) (tl rl : Nat) (x2 x4 x9 x10 x11 x12 x13 : Option D) (hs : Hs) (i : Nat) (e : Ev) (h : Hs) : Prop := ∃ x8, e = envQ sc p many rs tl x2 x4 (some (.loc rl)) x8 x9 x10 x11 x12 x13 ∧ cell h rl = some (.lst ((ps.take i).flatten.map tupI)) ∧ Gr [rl] hs h
theorem ext_ok {sc : D} {tl rl : Nat} {x2 x4 x8 x9 x10 x11 x12 x13 : Option D} {R : Fl → Hs → Prop} (T : Tk p many rs ps tl hs) (hr : cell hs rl = some (.lst [])) (ne : tl ≠ rl) (fin : ∀ x8 h, cell h rl = some (.lst (ps.flatten.map tupI)) → Gr [rl] hs h → R (.nx (envQ sc p many rs tl x2 x4 (some (.loc rl)) x8 x9 x10 x11 x12 x13)) h) :
    Wp (forS (fun h => cell h tl = some (.lst (ps.map tupR))) (bodyK (.one 8) (seqS (dropS (methM "list" extendD (varD 7) (consM (callM listD (consM (varD 8) (fun _ => M.pure []))) (fun _ => M.pure [])))) nextS)) (ps.map tupR) (envQ sc p many rs tl x2 x4 (some (.loc rl)) x8 x9 x10 x11 x12 x13) hs) R := by
  have fl : ps.flatten.length ≤ 100 := Nat.le_trans (nodup_sub (flat_nodup T.parts) fun r hr => (flat_mem T.parts r).mp hr) T.few
  refine wp_for (EI sc p many rs ps tl rl x2 x4 x9 x10 x11 x12 x13 hs) ⟨_, rfl, by simpa using hr, .refl⟩ ?_ ?_
  · rintro i d e h hi ⟨x8, rfl, hc, G⟩
    rw [List.getElem?_map] at hi
    obtain ⟨q, hq, rfl⟩ := Option.map_eq_some_iff.mp hi
    refine ⟨G.get T.tc (by simp; exact ne), ?_⟩
    simp [hc]
    have sq : Wp (listD [tupR q] h) = Wp (listD [.tup (q.map tupI)] h) := rfl
    rw [sq, wp_list_tup]
    have l1 := cell_lt hc
    have tk : (ps.take (i + 1)).flatten = (ps.take i).flatten ++ q := by rw [List.take_succ, hq]; simp
    have ln : (ps.take i).flatten.length + q.length ≤ 100 := by
      have : (ps.take (i + 1)).flatten.length ≤ ps.flatten.length := by
        conv => rhs; rw [← List.take_append_drop (i + 1) ps, List.flatten_append, List.length_append]
        omega
      rw [tk, List.length_append] at this
      omega
    rw [wp_ext_loc]
    refine ⟨_, _, by rw [cell_push_lt l1]; exact hc, cell_push, sz (by rw [List.length_map, List.length_map]; omega), ?_⟩
    refine ⟨_, rfl, ?_, G.trans (Gr.push.trans (.set (by simp)))⟩
    rw [cell_set_self (by simp; omega), tk, List.map_append]
  · rintro e h ⟨x8, rfl, hc, G⟩
    rw [List.length_map, List.take_length] at hc
    exact ⟨G.get T.tc (by simp; exact ne), fin x8 h hc G⟩
end
end DL.K05
set_option Elab.async false
set_option linter.all false
set_option maxRecDepth 100000
set_option maxHeartbeats 4000000
namespace DL.K05
open PySem PySem.Spec PyProof.Rows L2 DL DL.Row

section
variable {hs h : Hs} {p many : Nat} {rs : List (List Int)} {ps : List (List (List Int))} {sc : D} {tl rl : Nat} {x2 x4 x7 x8 x9 x10 x11 x12 x13 : Option D}
theorem list_rows {rs : List (List Int)} {Q : D → Hs → Prop} : Wp (listD [tupR rs] hs) Q = Q (.loc hs.length) (hs ++ [.lst (rs.map tupI)]) := rfl
theorem seq_rows {rs : List (List Int)} {Q : Except Ex Src → Hs → Prop} : Wp (seqSrc (tupR rs) hs) Q = Q (.ok ⟨rs.map tupI, fun _ => True⟩) hs := rfl
theorem s6 (T : Tk p many rs ps tl hs) (hr : cell hs rl = some (.lst (ps.flatten.map tupI))) :
    Wp (ifS (orM (notM (truth (callF 2 (r__law_is 8) (consM (varD 6) (consM (callF 1 r__law_parts (consM (varD 5) (fun _ => M.pure []))) (fun _ => M.pure [])))))) (asTest (op2 (cmpD .NotEq) (callM sortD (consM (varD 7) (fun _ => M.pure []))) (callM listD (consM (varD 5) (fun _ => M.pure []))))))
  (seqS (retS (fun _ => M.pure (.bl false)))
  nextS)
  nextS (envQ sc p many rs tl x2 x4 (some (.loc rl)) x8 x9 x10 x11 x12 x13) hs) fun r' h' => r' = .nx (envQ sc p many rs tl x2 x4 (some (.loc rl)) x8 x9 x10 x11 x12 x13) ∧ Gr [] hs h' := by
  simp [-wp_cmpNe]
  refine law_parts_ok T.lot T.few fun l2 ps2 h1 hl hc hP g1 => ?_
  obtain rfl := hP.one T.parts
  have few := parts_few T.lot T.few T.parts
  simp [-wp_cmpNe]
  refine is_lst (me := r__law_is 7) (g1.get T.tc (by simp)) hc (by simpa using by omega) (fun x hx => ?_) fun h2 g2 => ?_
  · obtain ⟨q, hq, rfl⟩ := List.mem_map.mp hx
    exact is_tupR (k := 4) (part_lot T.lot T.parts hq)
  simp [-wp_cmpNe]
  have hr2 := (g1.trans g2).get hr (by simp)
  refine wp_sort ordR (items_lst hr2) (fun x hx => t1_row (T.lot.ne ((flat_mem T.parts x).mp hx))) fun ys pm srt => ?_
  have up := rising_of ordR pm srt (flat_nodup T.parts)
  have e : ys = rs := rows_one up T.lot.up fun k => by rw [pm.mem_iff, flat_mem T.parts]
  subst e
  rw [list_rows]
  have c1 : cell (h2 ++ [O.lst (ys.map tupI), O.lst (ys.map tupI)]) h2.length = some (.lst (ys.map tupI)) := cell_app (k := 0)
  have c2 : cell (h2 ++ [O.lst (ys.map tupI), O.lst (ys.map tupI)]) (h2.length + 1) = some (.lst (ys.map tupI)) := cell_app (k := 1)
  simp [-wp_cmpNe]
  rw [wp_cmpNe, eq_rowsL c1 c2, eqv_rows]
  simp
  exact g1.trans (g2.trans .app)
theorem s7 (T : Tk p many rs ps tl hs) :
    Wp (ifS (notM (truth (callM allD (consM (compM [8] (.one 8) (seqM (varD 6)) (fun _ => M.pure true) (callF 2 (r__law_is 8) (consM (callF 1 r_parts (consM (varD 8) (fun _ => M.pure []))) (consM (lstM (consM (varD 8) (fun _ => M.pure []))) (fun _ => M.pure []))))) (fun _ => M.pure [])))))
  (seqS (retS (fun _ => M.pure (.bl false)))
  nextS)
  nextS (envQ sc p many rs tl x2 x4 x7 x8 x9 x10 x11 x12 x13) hs) fun r' h' => r' = .nx (envQ sc p many rs tl x2 x4 x7 x8 x9 x10 x11 x12 x13) ∧ Gr [] hs h' := by
  have few := parts_few T.lot T.few T.parts
  have hh := hash_a T.lot T.ent
  simp
  refine ⟨_, T.tc, ?_⟩
  refine wp_comp_grow [] (fun _ => some (.bl true)) (fun h1 g => g.get T.tc (by simp)) (by simpa using by omega) (fun d h hd g => ?_) fun h g => ?_
  · obtain ⟨q, hq, rfl⟩ := List.mem_map.mp hd
    have Lq := part_lot T.lot T.parts hq
    simp
    refine parts_ok Lq (part_few T.lot T.few T.parts hq) (fun a ha b hb => hh a (T.parts.sub q hq a ha) b (T.parts.sub q hq b hb)) fun l2 ps2 h1 hl hc hP g1 => ?_
    obtain rfl := hP.one (part_alone T.lot.len T.parts hq)
    simp
    have c1 : cell (h1 ++ [O.lst [tupR q]]) l2 = some (.lst [tupR q]) := by rw [cell_push_lt (cell_lt hc)]; exact hc
    have c2 : cell (h1 ++ [O.lst [tupR q]]) h1.length = some (.lst [tupR q]) := cell_push
    refine is_lst (me := r__law_is 7) c1 c2 (by simp) (fun x hx => ?_) fun h2 g2 => ?_
    · rw [List.mem_singleton.mp hx]
      exact is_tupR (k := 4) Lq
    simp
    exact g1.trans (Gr.push.trans g2)
  · rw [fm_true]
    simp
    exact g.trans .push
/-! ## names and an order -/
abbrev alph : List (List Int) := [[0, 1, 2, 3], [-100000000000000000000000000000, 0, 7, 100000000000000000000000000000], [9999, 3, 10000, -1]]
theorem alph_ok {A : List Int} (h : A ∈ alph) : A.length = 4 ∧ A.Nodup := by
  simp only [List.mem_cons, List.not_mem_nil, or_false] at h
  rcases h with rfl | rfl | rfl <;> exact ⟨rfl, by decide⟩
theorem hash_A {A : List Int} (hA : A ∈ alph) (L : Lot many rs) (he : ∀ r ∈ rs, ∀ x ∈ r, x ∈ A) : ∀ a ∈ rs, ∀ b ∈ rs, hash0 (kI a) = hash0 (kI b) → a = b := by
  have M : ∀ n a, a ∈ rs → n = many → a ∈ tuplesOver A n := fun n a ha hn => mem_over (by rw [hn]; exact L.len a ha) (he a ha)
  have l1 := L.lo
  have l2 := L.hi
  simp only [List.mem_cons, List.not_mem_nil, or_false] at hA
  intro a ha b hb e
  rcases hA with rfl | rfl | rfl <;> rcases (show many = 3 ∨ many = 4 ∨ many = 5 by omega) with z | z | z
  · exact hk_inj ap_a3 (M 3 a ha z.symm) (M 3 b hb z.symm) e
  · exact hk_inj ap_a4 (M 4 a ha z.symm) (M 4 b hb z.symm) e
  · exact hk_inj ap_a5 (M 5 a ha z.symm) (M 5 b hb z.symm) e
  · exact hk_inj ap_b3 (M 3 a ha z.symm) (M 3 b hb z.symm) e
  · exact hk_inj ap_b4 (M 4 a ha z.symm) (M 4 b hb z.symm) e
  · exact hk_inj ap_b5 (M 5 a ha z.symm) (M 5 b hb z.symm) e
  · exact hk_inj ap_c3 (M 3 a ha z.symm) (M 3 b hb z.symm) e
  · exact hk_inj ap_c4 (M 4 a ha z.symm) (M 4 b hb z.symm) e
  · exact hk_inj ap_c5 (M 5 a ha z.symm) (M 5 b hb z.symm) e
theorem wp_lstRg {fa : Ev → M D} {e : Ev} {Q : Except Ex D → Hs → Prop} : Wp (lstRg fa e hs) Q = Wp (fa e hs) (onOk (fun d => M.lift (rgL d)) Q) := by
  unfold lstRg; rw [wp_bind]
theorem wp_rgL {n : Nat} {Q : D → Hs → Prop} (hn : n ≤ 1000) : Wp (rgL (.int (n : Nat)) hs) Q = Q (.loc hs.length) (hs ++ [.lst (intL 0 n)]) := by
  unfold rgL
  simp only
  rw [if_pos ⟨by omega, by omega⟩, Int.toNat_natCast]
  rfl
theorem intL_map {n : Nat} : intL 0 n = (((List.range n).map fun (k : Nat) => (k : Int)).map D.int) := by
  unfold intL
  rw [List.map_map]
  exact List.map_congr_left fun k _ => by simp
theorem ord_of {js : List Int} {n : Nat} (h : js.Perm ((List.range n).map fun (k : Nat) => (k : Int))) : ∃ ord : List Nat, ord.Perm (List.range n) ∧ js.map D.int = ord.map fun (k : Nat) => D.int k := by
  refine ⟨js.map Int.toNat, ?_, ?_⟩
  · have := h.map Int.toNat
    rw [List.map_map] at this
    have e : ((List.range n).map (Int.toNat ∘ fun (k : Nat) => (k : Int))) = List.range n := (List.map_congr_left fun k _ => by simp).trans (List.map_id _)
    rw [e] at this
    exact this
  · rw [List.map_map]
    refine List.map_congr_left fun x hx => ?_
    obtain ⟨k, _, rfl⟩ := List.mem_map.mp (h.mem_iff.mp hx)
    simp
/-- behind names and order -/
def TN (sc : D) (p many : Nat) (rs : List (List Int)) (ps : List (List (List Int))) (tl : Nat) (e : Ev) (h : Hs) : Prop := ∃ (x2 x4 x7 x8 x9 x12 x13 : Option D) (o nl : Nat) (NM : List Nm) (ord : List Nat) (A : List Int), e = envQ sc p many rs tl x2 x4 x7 x8 x9 (some (.loc nl)) (some (.loc o)) x12 x13 ∧ Tk p many rs ps tl h ∧ NmOk many NM ord h o nl ∧ Ren many NM ord ∧ A ∈ alph ∧ ∀ x ∈ NM, ∀ v ∈ x.2, v ∈ A
def NI (p : Nat) (A : List Int) (hs : Hs) (i : Nat) (acc : List D) (h : Hs) : Prop := ∃ NM : List Nm, acc = NM.map (fun x => D.loc x.1) ∧ NM.length = i ∧ (∀ x ∈ NM, x.2.Perm A ∧ cell h x.1 = some (.lst (x.2.map .int)) ∧ x.1 ≠ p) ∧ Pg p hs h
theorem s9 {al : Nat} {A : List Int} (T : Tk p many rs ps tl hs) (hA : A ∈ alph) (ha : cell hs al = some (.lst (A.map .int))) (ap : al ≠ p) :
    Wp (asgS (.many [10, 11]) (tupM (consM (compM [13] (.one 13) (rngM 1 (consM (varD 3) (fun _ => M.pure []))) (fun _ => M.pure true) (callF 2 r__law_mixed (consM (varD 1) (consM (varD 9) (fun _ => M.pure []))))) (consM (callF 2 r__law_mixed (consM (varD 1) (consM (lstRg (varD 3)) (fun _ => M.pure [])))) (fun _ => M.pure [])))) (envQ sc p many rs tl x2 x4 x7 x8 (some (.loc al)) x10 x11 x12 x13) hs) fun r' h' => ∃ e, r' = .nx e ∧ TN sc p many rs ps tl e h' := by
  have l1 := T.lot.lo
  have l2 := T.lot.hi
  obtain ⟨a4, an⟩ := alph_ok hA
  have pl := T.pot.lt
  simp
  refine ⟨by omega, ?_⟩
  refine wp_comp (NI p A hs) ⟨[], rfl, rfl, by simp, .refl T.pot⟩ ?_ ?_
  · rintro i d acc h hi ⟨NM, rfl, hl, hN, G⟩
    obtain ⟨il, rfl⟩ := intL_at hi
    refine ⟨trivial, ?_⟩
    simp
    refine mixed_ok G.pot (G.get ha ap) (by omega) fun l js h1 hl1 hc pm g => ?_
    simp
    refine ⟨small1000 (by first | omega | (simp; omega)), NM ++ [(l, js)], by simp, by simp [hl], fun x hx => ?_, G.trans g⟩
    rcases List.mem_append.mp hx with h2 | h2
    · obtain ⟨h3, h4, h5⟩ := hN x h2
      exact ⟨h3, g.get h4 h5, h5⟩
    · rw [List.mem_singleton.mp h2]
      exact ⟨pm, hc, by have := G.pot.lt; show l ≠ p; omega⟩
  · rintro acc h ⟨NM, rfl, hl, hN, G⟩
    rw [intL_len] at hl
    refine ⟨trivial, ?_⟩
    have G1 : Pg p hs (h ++ [O.lst (NM.map fun x => D.loc x.1)]) := G.trans (.push G.pot)
    have c1 : cell (h ++ [O.lst (NM.map fun x => D.loc x.1)]) h.length = some (.lst (NM.map fun x => D.loc x.1)) := cell_push
    have hN1 : ∀ x ∈ NM, cell (h ++ [O.lst (NM.map fun x => D.loc x.1)]) x.1 = some (.lst (x.2.map .int)) := fun x hx => by
      have := (hN x hx).2.1
      rw [cell_push_lt (cell_lt this)]
      exact this
    have pl1 := G.pot.lt
    obtain ⟨nl, hnl⟩ : ∃ nl, nl = h.length := ⟨_, rfl⟩
    simp only [wp_newL, onOk_ok, wp_lstRg, wp_bind, wp_cons, wp_callF, wp_var, wp_lift]
    rw [← hnl] at c1 ⊢
    generalize h ++ [O.lst (NM.map fun x => D.loc x.1)] = h1 at *
    refine ⟨_, rfl, ?_⟩
    rw [wp_rgL (by omega)]
    simp
    have c2 : cell (h1 ++ [O.lst (intL 0 many)]) nl = some (.lst (NM.map fun x => D.loc x.1)) := by rw [cell_push_lt (cell_lt c1)]; exact c1
    have c3 : cell (h1 ++ [O.lst (intL 0 many)]) h1.length = some (.lst (((List.range many).map fun (k : Nat) => (k : Int)).map D.int)) := by rw [cell_push, intL_map]
    have hN2 : ∀ x ∈ NM, cell (h1 ++ [O.lst (intL 0 many)]) x.1 = some (.lst (x.2.map .int)) := fun x hx => by
      have := hN1 x hx
      rw [cell_push_lt (cell_lt this)]
      exact this
    have G2 : Pg p hs (h1 ++ [O.lst (intL 0 many)]) := G1.trans (.push G1.pot)
    generalize h1 ++ [O.lst (intL 0 many)] = h2 at *
    refine mixed_ok G2.pot c3 (by simp; omega) fun l js h3 hl3 hc pm g => ?_
    obtain ⟨ord, po, eo⟩ := ord_of pm
    have G3 := G2.trans g
    have R : Ren many NM ord := ⟨hl, fun x hx => by rw [(hN x hx).1.length_eq, a4], fun x hx => (hN x hx).1.nodup_iff.mpr an, po⟩
    simp
    refine ⟨_, _, _, _, _, _, _, l, nl, NM, ord, A, rfl, T.pg G3, ⟨hl, R.four, fun x hx => g.get (hN2 x hx) (hN x hx).2.2, fun k hk => R.lt hk, by rw [← eo]; exact hc, g.get c2 (by omega), R.olen⟩, R, hA, fun x hx v hv => (hN x hx).1.mem_iff.mp hv⟩
end
end DL.K05
set_option Elab.async false
set_option linter.all false
set_option maxRecDepth 100000
set_option maxHeartbeats 4000000
namespace DL.K05
open PySem PySem.Spec PyProof.Rows L2 DL DL.Row

section
variable {hs h : Hs} {p many : Nat} {rs : List (List Int)} {ps : List (List (List Int))} {sc : D} {tl rl : Nat} {x2 x4 x7 x8 x9 x10 x11 x12 x13 : Option D}
theorem s8 (T : Tk p many rs ps tl hs) :
    Wp (asgS (.one 9) (callF 2 r__law_any (consM (varD 1) (consM (lstM (consM (lstM (consM (fun _ => M.pure (.int 0)) (consM (fun _ => M.pure (.int 1)) (consM (fun _ => M.pure (.int 2)) (consM (fun _ => M.pure (.int 3)) (fun _ => M.pure [])))))) (consM (lstM (consM (negV (op2 (binD .Pow) (fun _ => M.pure (.int 10)) (fun _ => M.pure (.int 29)))) (consM (fun _ => M.pure (.int 0)) (consM (fun _ => M.pure (.int 7)) (consM (op2 (binD .Pow) (fun _ => M.pure (.int 10)) (fun _ => M.pure (.int 29))) (fun _ => M.pure [])))))) (consM (lstM (consM (fun _ => M.pure (.int 9999)) (consM (fun _ => M.pure (.int 3)) (consM (op2 (binD .Pow) (fun _ => M.pure (.int 10)) (fun _ => M.pure (.int 4))) (consM (negV (fun _ => M.pure (.int 1))) (fun _ => M.pure [])))))) (fun _ => M.pure []))))) (fun _ => M.pure [])))) (envQ sc p many rs tl x2 x4 x7 x8 x9 x10 x11 x12 x13) hs) fun r' h' => ∃ al A, r' = .nx (envQ sc p many rs tl x2 x4 x7 x8 (some (.loc al)) x10 x11 x12 x13) ∧ A ∈ alph ∧ cell h' al = some (.lst (A.map .int)) ∧ al ≠ p ∧ Pg p hs h' := by
  have pl := T.pot.lt
  simp
  have c0 : ∀ a b c d : O, cell (hs ++ [a, b, c, d]) hs.length = some a := fun a b c d => cell_app (k := 0)
  have c1 : ∀ a b c d : O, cell (hs ++ [a, b, c, d]) (hs.length + 1) = some b := fun a b c d => cell_app (k := 1)
  have c2 : ∀ a b c d : O, cell (hs ++ [a, b, c, d]) (hs.length + 2) = some c := fun a b c d => cell_app (k := 2)
  have c3 : ∀ a b c d : O, cell (hs ++ [a, b, c, d]) (hs.length + 3) = some d := fun a b c d => cell_app (k := 3)
  refine any_ok (T.pot.gr .app) (.loc (c3 _ _ _ _) (by omega)) (by simp) (by simp) fun x h1 hx g => ?_
  have G : Pg p hs h1 := (Pg.of T.pot .app).trans g
  simp only [List.mem_cons, List.not_mem_nil, or_false] at hx
  rcases hx with rfl | rfl | rfl
  · simp
    exact .inl ⟨g.get (c0 _ _ _ _) (by omega), by omega, G⟩
  · simp
    exact .inr (.inl ⟨g.get (c1 _ _ _ _) (by omega), by omega, G⟩)
  · simp
    exact .inr (.inr ⟨g.get (c2 _ _ _ _) (by omega), by omega, G⟩)
/-- led rows, sorted -/
theorem led_sorted {NM : List Nm} {ord : List Nat} {q ys : List (List Int)} (R : Ren many NM ord) (hg : ∀ r ∈ q, Good many r) (nd : q.Nodup) (pm : ys.Perm (q.map (led NM ord))) (srt : ys.Pairwise fun a b => ¬ b < a) : ys = ledLot NM ord q := by
  have hn : (q.map (led NM ord)).Nodup := List.pairwise_map.mpr (List.Pairwise.imp_of_mem (fun {a b} ha hb ne e => ne (led_inj R (hg a ha) (hg b hb) e)) nd)
  exact rows_one (rising_of ordR pm srt hn) usortR_sorted fun k => by
    rw [pm.mem_iff]
    unfold ledLot
    rw [usortR_mem]
theorem good_of (T : Tk p many rs ps tl hs) : ∀ r ∈ rs, Good many r := fun r hr => ⟨T.lot.len r hr, T.ent r hr⟩
/-- behind what is due -/
def TD (sc : D) (p many : Nat) (rs : List (List Int)) (ps : List (List (List Int))) (tl : Nat) (e : Ev) (h : Hs) : Prop := ∃ (x2 x4 x7 x8 x9 x13 : Option D) (o nl dl : Nat) (NM : List Nm) (ord : List Nat) (A : List Int) (qs : List (List (List Int))), e = envQ sc p many rs tl x2 x4 x7 x8 x9 (some (.loc nl)) (some (.loc o)) (some (.loc dl)) x13 ∧ Tk p many rs ps tl h ∧ NmOk many NM ord h o nl ∧ Ren many NM ord ∧ A ∈ alph ∧ (∀ x ∈ NM, ∀ v ∈ x.2, v ∈ A) ∧ cell h dl = some (.lst (qs.map tupR)) ∧ IsParts (ledLot NM ord rs) qs
def dueG (NM : List Nm) (ord : List Nat) (d : D) : Option D := match d with
  | .tup xs => match rowsOfD xs with
    | some q => some (tupR (ledLot NM ord q))
    | none => none
  | _ => none
theorem dueG_all (NM : List Nm) (ord : List Nat) : ∀ ps : List (List (List Int)), (ps.map tupR).filterMap (dueG NM ord) = (ps.map (ledLot NM ord)).map tupR
  | [] => rfl
  | q :: ps => by
    rw [List.map_cons, List.filterMap_cons, dueG_all NM ord ps]
    simp only [dueG, tupR, rowsOfD_map]
    rfl
theorem dueG_one {NM : List Nm} {ord : List Nat} {q : List (List Int)} : dueG NM ord (tupR q) = some (tupR (ledLot NM ord q)) := by
  simp only [dueG, tupR, rowsOfD_map]
theorem s10 {e : Ev} (I : TN sc p many rs ps tl e hs) :
    Wp (asgS (.one 12) (callM sortD (consM (compM [8] (.one 8) (seqM (varD 6)) (fun _ => M.pure true) (callM tupleD (consM (callM sortD (consM (callF 3 r__law_led (consM (varD 8) (consM (varD 11) (consM (varD 10) (fun _ => M.pure []))))) (fun _ => M.pure []))) (fun _ => M.pure [])))) (fun _ => M.pure []))) e hs) fun r' h' => ∃ e, r' = .nx e ∧ TD sc p many rs ps tl e h' := by
  obtain ⟨x2, x4, x7, x8, x9, x12, x13, o, nl, NM, ord, A, rfl, T, N, R, hA, hv⟩ := I
  have few := parts_few T.lot T.few T.parts
  have hg := good_of T
  have l2 := T.lot.hi
  simp
  refine ⟨_, T.tc, ?_⟩
  refine wp_comp_grow [] (dueG NM ord) (fun h1 g => g.get T.tc (by simp)) (by simpa using by omega) (fun d h hd g => ?_) fun h g => ?_
  · obtain ⟨q, hq, rfl⟩ := List.mem_map.mp hd
    have gq : ∀ r ∈ q, Good many r := fun r hr => hg r (T.parts.sub q hq r hr)
    have nq : q.Nodup := (T.parts.srt q hq).imp fun {a b} (h : a < b) (e : a = b) => row_irrefl a (by subst e; exact h)
    simp
    refine led_ok (N.gr g) l2 (part_few T.lot T.few T.parts hq) gq fun l h1 hl hc g1 => ?_
    simp
    refine wp_sort ordR (items_lst hc) (fun x hx => ?_) fun ys pm srt => ?_
    · obtain ⟨r, _, rfl⟩ := List.mem_map.mp hx
      refine t1_row fun e => ?_
      have := led_len (r := r) R
      rw [e] at this
      have := T.lot.lo
      simp at *
      omega
    obtain rfl := led_sorted R gq nq pm srt
    rw [dueG_one, wp_tuple_loc]
    exact ⟨_, cell_push, rfl, g1.trans .push⟩
  · rw [dueG_all]
    have c1 : cell (h ++ [O.lst ((ps.map (ledLot NM ord)).map tupR)]) h.length = some (.lst ((ps.map (ledLot NM ord)).map tupR)) := cell_push
    have G1 : Gr [] hs (h ++ [O.lst ((ps.map (ledLot NM ord)).map tupR)]) := g.trans .push
    refine wp_sort ordP (items_lst c1) (fun x hx => ?_) fun qs pm srt => ?_
    · obtain ⟨q, hq, rfl⟩ := List.mem_map.mp hx
      exact t1_part (usortR_some fun e => T.parts.ne q hq (List.map_eq_nil_iff.mp e))
    have up := rising_of ordP pm srt (led_nodup R hg T.parts)
    have P := led_parts R T.lot hg T.parts pm up
    have G2 := G1.trans (Gr.push (S := []) (o := .lst (qs.map tupR)))
    exact ⟨_, _, _, _, _, _, o, nl, _, NM, ord, A, qs, rfl, T.gr G2, N.gr G2, R, hA, hv, cell_push, P⟩
theorem s11 {e : Ev} (I : TD sc p many rs ps tl e hs) :
    Wp (ifS (notM (truth (callF 2 (r__law_is 8) (consM (callF 1 r_parts (consM (callM tupleD (consM (callM sortD (consM (callF 3 r__law_led (consM (varD 5) (consM (varD 11) (consM (varD 10) (fun _ => M.pure []))))) (fun _ => M.pure []))) (fun _ => M.pure []))) (fun _ => M.pure []))) (consM (varD 12) (fun _ => M.pure []))))))
  (seqS (retS (fun _ => M.pure (.bl false)))
  nextS)
  nextS e hs) fun r' h' => r' = .nx e ∧ Pot p h' := by
  obtain ⟨x2, x4, x7, x8, x9, x13, o, nl, dl, NM, ord, A, qs, rfl, T, N, R, hA, hv, hd, P⟩ := I
  have hg := good_of T
  have l2 := T.lot.hi
  have l1 := T.lot.lo
  simp
  refine led_ok N l2 T.few hg fun l h1 hl hc g1 => ?_
  simp
  refine wp_sort ordR (items_lst hc) (fun x hx => ?_) fun ys pm srt => ?_
  · obtain ⟨r, _, rfl⟩ := List.mem_map.mp hx
    refine t1_row fun e => ?_
    have := led_len (r := r) R
    rw [e] at this
    simp at *
    omega
  obtain rfl := led_sorted R hg T.lot.nodup pm srt
  have Ll := led_lot R T.lot
  have lf : (ledLot NM ord rs).length ≤ 100 := Nat.le_trans (usortR_len _) (by simpa using T.few)
  have hin : ∀ t ∈ ledLot NM ord rs, ∀ x ∈ t, x ∈ A := fun t ht x hx => by
    obtain ⟨r, hr, rfl⟩ := mem_led.mp ht
    obtain ⟨k, hk, rfl⟩ := List.mem_map.mp hx
    obtain ⟨y, v, e1, y0, y4, e2, e3⟩ := val_get R (hg r hr) (R.lt hk)
    rw [e3]
    have vm := List.mem_of_getElem? e2
    have v4 := R.four v vm
    have yl : y.toNat < v.2.length := by omega
    rw [List.getD_eq_getElem?_getD, List.getElem?_eq_getElem yl]
    exact hv v vm _ (List.getElem_mem yl)
  simp
  show Wp (r_parts [tupR (ledLot NM ord rs)] _) _
  refine parts_ok Ll lf (hash_A hA Ll hin) fun l3 ps3 h3 hl3 hc3 hP g3 => ?_
  obtain rfl := hP.one P
  simp
  have G3 : Gr [] hs h3 := g1.trans (Gr.push.trans g3)
  refine is_lst (me := r__law_is 7) hc3 (G3.get hd (by simp)) (by have := parts_few Ll lf P; simp; omega) (fun x hx => ?_) fun h4 g4 => ?_
  · obtain ⟨q, hq, rfl⟩ := List.mem_map.mp hx
    exact is_tupR (k := 4) (part_lot Ll P hq)
  simp
  exact T.pot.gr (G3.trans g4)
end
end DL.K05
set_option Elab.async false
set_option linter.all false
set_option maxRecDepth 100000
set_option maxHeartbeats 4000000
namespace DL.K05
open PySem PySem.Spec PyProof.Rows L2 DL DL.Row

def NxI (I : Ev → Hs → Prop) : Fl → Hs → Prop := fun r h => match r with
  | .nx e => I e h
  | _ => False
@[simp] theorem nxI_nx {I : Ev → Hs → Prop} {e : Ev} {h : Hs} : NxI I (.nx e) h = I e h := rfl
theorem wp_seqI {I : Ev → Hs → Prop} {g1 g2 : Ev → S} {e : Ev} {hs : Hs} {Q : Fl → Hs → Prop} (h1 : Wp (g1 e hs) (NxI I)) (h2 : ∀ e h, I e h → Wp (g2 e h) Q) : Wp (seqS g1 g2 e hs) Q := by
  rw [wp_seq]
  refine h1.mono fun r h q => ?_
  cases r with
  | nx e => exact h2 e h q
  | _ => exact q.elim
section
variable {p : Nat} {hs : Hs}
def LO (sc : D) (p : Nat) (i : Nat) (e : Ev) (h : Hs) : Prop := ∃ x2 x3 x4 x5 x6 x7 x8 x9 x10 x11 x12 x13, e = [some sc, some (.loc p), x2, x3, x4, x5, x6, x7, x8, x9, x10, x11, x12, x13] ∧ Pot p h
def I1 (sc : D) (p : Nat) (e : Ev) (h : Hs) : Prop := ∃ (m : Nat) (w : Int) (x2 x5 x6 x7 x8 x9 x10 x11 x12 x13 : Option D), e = [some sc, some (.loc p), x2, some (.int (m : Nat)), some (.int (2 + w)), x5, x6, x7, x8, x9, x10, x11, x12, x13] ∧ Pot p h ∧ 3 ≤ m ∧ m ≤ 5 ∧ 0 ≤ w ∧ w < 3
def I2 (sc : D) (p : Nat) (e : Ev) (h : Hs) : Prop := ∃ (m : Nat) (rs : List (List Int)) (x2 x4 x6 x7 x8 x9 x10 x11 x12 x13 : Option D), e = [some sc, some (.loc p), x2, some (.int (m : Nat)), x4, some (tupR rs), x6, x7, x8, x9, x10, x11, x12, x13] ∧ Pot p h ∧ Lot m rs ∧ rs.length ≤ 100 ∧ ∀ r ∈ rs, ∀ x ∈ r, 0 ≤ x ∧ x < 4
def I3 (sc : D) (p : Nat) (e : Ev) (h : Hs) : Prop := ∃ (m : Nat) (rs : List (List Int)) (ps : List (List (List Int))) (tl : Nat) (x2 x4 x7 x8 x9 x10 x11 x12 x13 : Option D), e = envQ sc p m rs tl x2 x4 x7 x8 x9 x10 x11 x12 x13 ∧ Tk p m rs ps tl h
def I4 (sc : D) (p : Nat) (e : Ev) (h : Hs) : Prop := ∃ (m : Nat) (rs : List (List Int)) (ps : List (List (List Int))) (tl rl : Nat) (x2 x4 x8 x9 x10 x11 x12 x13 : Option D), e = envQ sc p m rs tl x2 x4 (some (.loc rl)) x8 x9 x10 x11 x12 x13 ∧ cell h rl = some (.lst []) ∧ Tk p m rs ps tl h ∧ tl < rl ∧ p < rl
def I5 (sc : D) (p : Nat) (e : Ev) (h : Hs) : Prop := ∃ (m : Nat) (rs : List (List Int)) (ps : List (List (List Int))) (tl rl : Nat) (x2 x4 x8 x9 x10 x11 x12 x13 : Option D), e = envQ sc p m rs tl x2 x4 (some (.loc rl)) x8 x9 x10 x11 x12 x13 ∧ cell h rl = some (.lst (ps.flatten.map tupI)) ∧ Tk p m rs ps tl h
def I8 (sc : D) (p : Nat) (e : Ev) (h : Hs) : Prop := ∃ (m : Nat) (rs : List (List Int)) (ps : List (List (List Int))) (tl al : Nat) (A : List Int) (x2 x4 x7 x8 x10 x11 x12 x13 : Option D), e = envQ sc p m rs tl x2 x4 x7 x8 (some (.loc al)) x10 x11 x12 x13 ∧ Tk p m rs ps tl h ∧ A ∈ alph ∧ cell h al = some (.lst (A.map .int)) ∧ al ≠ p
def I9 (sc : D) (p : Nat) (e : Ev) (h : Hs) : Prop := ∃ (m : Nat) (rs : List (List Int)) (ps : List (List (List Int))) (tl : Nat), TN sc p m rs ps tl e h
def I10 (sc : D) (p : Nat) (e : Ev) (h : Hs) : Prop := ∃ (m : Nat) (rs : List (List Int)) (ps : List (List (List Int))) (tl : Nat), TD sc p m rs ps tl e h
theorem pot_in {p k : Nat} {h : Hs} (P : Pot p h) (G : Gr [k] hs h) (h0 : Pot p hs) (hk : p < k) : Pot p h := P
theorem pot_set {p rl : Nat} {h : Hs} (P : Pot p hs) (G : Gr [rl] hs h) (hk : p < rl) : Pot p h := by
  obtain ⟨c, cells, a, b, s, t, h0, h1, h2, h3⟩ := P
  exact ⟨c, cells, a, b, s, t, h0, G.get h1 (by simp; omega), G.get h2 (by simp; omega), h3⟩
theorem law_true (ns : List Int) (hl : ns.length ≤ 63) : Wp (r_law [.frl (ns.map D.int)] []) (okq fun d _ => d = .bl true) := by
  unfold r_law b_law
  rw [wp_run]
  simp only [wp_seq]
  simp
  refine pot_ok fun p h0 _ hp _ => ?_
  simp
  generalize D.frl (ns.map D.int) = sc
  refine wp_for (LO sc p) ⟨_, _, _, _, _, _, _, _, _, _, _, _, rfl, hp⟩ ?_ ?_
  · rintro i d e h hi ⟨x2, x3, x4, x5, x6, x7, x8, x9, x10, x11, x12, x13, rfl, hp⟩
    refine ⟨trivial, ?_⟩
    rw [bodyK_one]
    refine wp_seqI (I := I1 sc p) ?_ ?_
    · simp
      refine draw_ok hp (by decide) (smR (by decide) (by decide)) fun v h1 v0 v1 g1 => ?_
      obtain ⟨m, hm⟩ : ∃ m : Nat, 3 + v = (m : Int) := ⟨(3 + v).toNat, by omega⟩
      simp
      refine draw_ok g1.pot (by decide) (smR (by decide) (by decide)) fun w h2 w0 w1 g2 => ?_
      simp
      rw [hm]
      exact ⟨m, w, _, _, _, _, _, _, _, _, _, _, rfl, g2.pot, by omega, by omega, w0, w1⟩
    clear hp
    rintro e h1 ⟨m, w, x2, x5, x6, x7, x8, x9, x10, x11, x12, x13, rfl, hp, m3, m5, w0, w1⟩
    refine wp_seqI (I := I2 sc p) ?_ ?_
    · simp
      refine any_ok (hp.gr .push) (.loc cell_push (by have := hp.lt; omega)) (by simp) (by simp) fun y h3 hy g3 => ?_
      obtain ⟨most, rfl, hmo⟩ : ∃ most : Int, y = .int most ∧ 0 < most ∧ most ≤ 60 := by
        simp only [List.mem_cons, List.not_mem_nil, or_false] at hy
        rcases hy with rfl | rfl | rfl <;> exact ⟨_, rfl, by decide, by decide⟩
      simp
      refine lot_ok g3.pot m3 m5 ⟨by omega, by omega⟩ hmo fun rs h4 L hf he g4 => ?_
      simp
      exact ⟨m, rs, _, _, _, _, _, _, _, _, _, _, rfl, g4.pot, L, hf, fun r hr x hx => by have := he r hr x hx; omega⟩
    clear hp m3 m5 w0 w1
    rintro e h2 ⟨m, rs, x2, x4, x6, x7, x8, x9, x10, x11, x12, x13, rfl, hp, L, hf, he⟩
    refine wp_seqI (I := I3 sc p) ?_ ?_
    · simp
      refine parts_ok L hf (hash_a L he) fun l ps h3 hl hc hP g3 => ?_
      simp
      exact ⟨m, rs, ps, l, _, _, _, _, _, _, _, _, _, rfl, hp.gr g3, L, hf, he, hP, hc, by have := hp.lt; omega⟩
    clear hp L hf he
    rintro e h3 ⟨m, rs, ps, tl, x2, x4, x7, x8, x9, x10, x11, x12, x13, rfl, T⟩
    refine wp_seqI (I := I4 sc p) ?_ ?_
    · simp
      exact ⟨m, rs, ps, tl, h3.length, _, _, _, _, _, _, _, _, rfl, cell_push, T.gr .push, cell_lt T.tc, T.pot.lt⟩
    clear T
    rintro e h4 ⟨m, rs, ps, tl, rl, x2, x4, x8, x9, x10, x11, x12, x13, rfl, hr, T, tr, pr⟩
    refine wp_seqI (I := I5 sc p) ?_ ?_
    · simp
      refine ⟨_, T.tc, ?_⟩
      refine ext_ok T hr (by omega) fun x8 h5 hc G => ?_
      exact ⟨m, rs, ps, tl, rl, _, _, _, _, _, _, _, _, rfl, hc, pot_set T.pot G pr, T.lot, T.few, T.ent, T.parts, G.get T.tc (by simp; omega), T.tp⟩
    clear hr T tr pr
    rintro e h5 ⟨m, rs, ps, tl, rl, x2, x4, x8, x9, x10, x11, x12, x13, rfl, hc, T⟩
    refine wp_seqI (I := I3 sc p) ?_ ?_
    · refine (s6 T hc).mono ?_
      rintro _ h6 ⟨rfl, g⟩
      exact ⟨m, rs, ps, tl, _, _, _, _, _, _, _, _, _, rfl, T.gr g⟩
    clear hc T
    rintro e h6 ⟨m, rs, ps, tl, x2, x4, x7, x8, x9, x10, x11, x12, x13, rfl, T⟩
    refine wp_seqI (I := I3 sc p) ?_ ?_
    · refine (s7 T).mono ?_
      rintro _ h7 ⟨rfl, g⟩
      exact ⟨m, rs, ps, tl, _, _, _, _, _, _, _, _, _, rfl, T.gr g⟩
    clear T
    rintro e h7 ⟨m, rs, ps, tl, x2, x4, x7, x8, x9, x10, x11, x12, x13, rfl, T⟩
    refine wp_seqI (I := I8 sc p) ?_ ?_
    · refine (s8 T).mono ?_
      rintro _ h8 ⟨al, A, rfl, hA, ha, ap, g⟩
      exact ⟨m, rs, ps, tl, al, A, _, _, _, _, _, _, _, _, rfl, T.pg g, hA, ha, ap⟩
    clear T
    rintro e h8 ⟨m, rs, ps, tl, al, A, x2, x4, x7, x8, x10, x11, x12, x13, rfl, T, hA, ha, ap⟩
    refine wp_seqI (I := I9 sc p) ?_ ?_
    · refine (s9 T hA ha ap).mono ?_
      rintro _ h9 ⟨e, rfl, I⟩
      exact ⟨m, rs, ps, tl, I⟩
    clear T ha
    rintro e h9 ⟨m, rs, ps, tl, I⟩
    refine wp_seqI (I := I10 sc p) ?_ ?_
    · refine (s10 I).mono ?_
      rintro _ h10 ⟨e, rfl, I⟩
      exact ⟨m, rs, ps, tl, I⟩
    clear I
    rintro e h10 ⟨m, rs, ps, tl, I⟩
    refine wp_seqI (I := LO sc p 0) ?_ ?_
    · refine (s11 I).mono ?_
      rintro _ h11 ⟨rfl, hp⟩
      obtain ⟨x2, x4, x7, x8, x9, x13, o, nl, dl, NM, ord, A, qs, rfl, _⟩ := I
      exact ⟨_, _, _, _, _, _, _, _, _, _, _, _, rfl, hp⟩
    rintro e h11 I
    exact I
  · rintro e h ⟨x2, x3, x4, x5, x6, x7, x8, x9, x10, x11, x12, x13, rfl, hp⟩
    refine ⟨trivial, ?_⟩
    simp
end
end DL.K05
set_option Elab.async false
set_option linter.all false
set_option maxRecDepth 100000
set_option maxHeartbeats 4000000
namespace DL
open PySem PySem.Spec PyProof.Rows L2

/-! ## the end: the error classes that the top has made -/
/-- what is read of an error class, at C -/
structure ErrG (K : PySem.W.Frag) (x : Str) (C S : Addr) : Prop where
  a : PySem.W.nsIn K mainGlobals x = some (some (.ref C))
  s : PySem.W.nsIn K mainGlobals "SilentError" = some (some (.ref S))
  T : L2.OexC K C
  cd : ∃ cd : ClassData, PySem.W.clsIn K C = some cd ∧ cd.name = x ∧ cd.mro = [.ref C, .ref S, .type "ValueError", .type "Exception", .type "BaseException", .type "object"]
  sI : (PySem.W.clsIn K S).isSome = true
  sB : PySem.W.subIn K (.ref S) (.type "BaseException") = some true
  sT : PySem.W.typeIn K (.ref S) = some (.type "type")
  ne : S ≠ C
  nx : x ≠ "SilentError"
  xf : L2.XfC K C
  ec : L2.ExcC K C
section
variable {P : Program} {K : PySem.W.Frag} {x nm q : Str} {C S N : Addr} {bs bm : List Value} {sn : List Str} {sub : List Value} {ab : Bool} {col : Option Bool} {dd : Option Addr} {k0 k1 k2 k3 k5 : Option Value}
theorem errG_mk (a : PySem.W.nsIn K mainGlobals x = some (some (.ref C))) (s : PySem.W.nsIn K mainGlobals "SilentError" = some (some (.ref S)))
    (l : K.lookup C = some (excClassObj nm q C N bs bm true sn sub ab col dd k0 k1 k2 k3 k5 "ValueError.__new__")) (e1 : bm = [.ref S, .type "ValueError", .type "Exception", .type "BaseException", .type "object"]) (e2 : nm = x)
    (f1 : PySem.W.findIn K (.ref C) "__setattr__" = some (some (.builtin "object.__setattr__"))) (f2 : PySem.W.subIn K (.ref C) (.type "BaseException") = some true) (f3 : PySem.W.typeIn K (.ref C) = some (.type "type")) (f4 : PySem.W.keepIn K (.ref C) = true)
    (g1 : PySem.W.isClsIn K S = true) (g2 : PySem.W.subIn K (.ref S) (.type "BaseException") = some true) (g3 : PySem.W.typeIn K (.ref S) = some (.type "type")) (ne : S ≠ C) (nx : x ≠ "SilentError")
    (h1 : PySem.W.findIn K (.ref C) "__getattribute__" = some (some (.builtin "BaseException.__getattribute__"))) (h2 : PySem.W.findIn K (.ref C) "__getattr__" = some none) (h3 : PySem.W.hasDictIn K C = true)
    (i1 : PySem.W.findIn K (.ref C) "__class__" = some (some (.builtin "object.__class__"))) (i2 : PySem.W.specialIn K (.builtin "object.__class__") "__get__" = some (some (.builtin "getset_descriptor.__get__"))) (i3 : PySem.W.takesIn K (.builtin "object.__class__") = some true)
    (i4 : PySem.W.mroIn K C (.type "object") = some true) : ErrG K x C S where
  a := a
  s := s
  T := ⟨⟨_, _, _, _, _, _, _, _, _, _, _, _, _, _, _, l, by subst e1; rfl⟩, f1, f2, f3, f4⟩
  cd := ⟨_, by unfold PySem.W.clsIn; rw [l], e2, by subst e1; rfl⟩
  sI := g1
  sB := g2
  sT := g3
  ne := ne
  nx := nx
  xf := ⟨h1, h2, f2, h3⟩
  ec := ⟨h1, h2, f2, h3, i1, i2, i3, i4⟩
theorem ErrG.m {mg : Str → Option Value} {h : Heap} (E : ErrG K x C S) (X : K.In h) (G : h.Ns mainGlobals mg) : ErrM K mg x C := by
  obtain ⟨cd, e1, e2, e3⟩ := E.cd
  exact ⟨S, cd, e1, e2, e3, PySem.W.mg_of X G E.s, E.sI, E.sB, E.sT, E.T.tyC, E.ne, E.nx, E.xf, E.ec⟩
/-- what is read of its __init__ -/
structure ErrI (P : Program) (K : PySem.W.Frag) (x : Str) (fld : Option Str) : Prop where
  ex : ∃ C S, ErrG K x C S ∧ ErrC P K C fld
variable {fI cc cda : Addr} {qual txt file : Str} {tf : Tok} {st : Stmt} {dV kV doc pm ct oc ccl cl : Value} {an od cdd cld : Option Addr} {osl ccs csl : Array (Option Value)} {vs : Array Value} {ar : Arg}
      {p0 p1 p2 p3 p4 p5 q1 q2 q3 q4 : Pos} {j : Nat}
theorem errI_mk0 (E : ErrG K x C S) (iC : PySem.W.findIn K (.ref C) "__init__" = some (some (.ref fI))) (tI : PySem.W.typeIn K (.ref fI) = some (.type "function"))
    (lk : K.lookup fI = some ⟨oc, od, .func (PySem.W.ksFn "__init__" qual (defArgs st) (defBody st) (defScope st) dV kV doc pm an (.ref cda) ct cc), osl⟩) (hcd : PySem.W.codeIn K (.ref cda) qual = true)
    (lcc : K.lookup cc = some ⟨cl, cld, .cell (some (.ref C)), csl⟩) (lcd : K.lookup cda = some ⟨ccl, cdd, .fields vs, ccs⟩) (hvs : vs[2]? = some (.str file tf)) (hfile : ((P.main.file : Str) == file) = true)
    (hsub : PySem.W.mroIn K C (.ref C) = some true) (hsup : PySem.W.ks_superIn K C C "__init__" = some (some (.builtin "ValueError.__init__"))) (hVE : PySem.W.subIn K (.ref C) (.type "ValueError") = some true)
    (hsn : PySem.W.nsIn K mainGlobals "super" = some none) (hop : PySem.W.nsIn K cStatics "thirdparty.any" = some none)
    (hb : defBody st = .Expr (.Call (.Attribute (.Call (.Name "super" p0) [] [] p1) "__init__" p2) [.Constant (.str txt) j p3] [] p4) p5 :: []) (hline : (p2.endLine == p4.line) = true)
    (hbi : ∀ s u v, BindsTo s (PySem.W.ksFn "__init__" qual (defArgs st) (defBody st) (defScope st) dV kV doc pm an (.ref cda) ct cc) ⟨.ref u :: moreA none v, []⟩ (("self", .ref u) :: moreB none v))
    (hp : ((defArgs st).posonlyargs ++ (defArgs st).args).head? = some ar) (har : ar.arg = "self")
    (s1 : (defScope st).names.lookup ("super" : Str) = some .globalImplicit) (s2 : (defScope st).names.lookup ("__class__" : Str) = some .free) (s3 : (defScope st).names.lookup ("self" : Str) = some .local)
    (s5 : ∀ x ∈ (defScope st).names, x.2 ≠ .cell) (s6 : (defScope st).isCoroutine = false) (s7 : (defScope st).isGenerator = false) (s8 : (defScope st).kind = .function) (s9 : (P.main.scope.names.lookup ("super" : Str)).isSome = false) : ErrI P K x none :=
  ⟨C, S, E, E.T, fI, cc, cda, qual, txt, file, tf, defArgs st, defBody st, defScope st, dV, kV, doc, pm, ct, oc, ccl, cl, an, od, cdd, cld, osl, ccs, csl, vs, E.cd.choose, ar, p0, p1, p2, p3, p4, p5, j, [],
    iC, tI, lk, hcd, lcc, lcd, hvs, hfile, hsub, hsup, hVE, hsn, hop, hb, hline, (fun h => by cases h), hbi, hp, har, s1, s2, s3, (fun _ h => by cases h), s5, s6, s7, s8, s9⟩
theorem errI_mk1 {f : Str} (E : ErrG K x C S) (iC : PySem.W.findIn K (.ref C) "__init__" = some (some (.ref fI))) (tI : PySem.W.typeIn K (.ref fI) = some (.type "function"))
    (lk : K.lookup fI = some ⟨oc, od, .func (PySem.W.ksFn "__init__" qual (defArgs st) (defBody st) (defScope st) dV kV doc pm an (.ref cda) ct cc), osl⟩) (hcd : PySem.W.codeIn K (.ref cda) qual = true)
    (lcc : K.lookup cc = some ⟨cl, cld, .cell (some (.ref C)), csl⟩) (lcd : K.lookup cda = some ⟨ccl, cdd, .fields vs, ccs⟩) (hvs : vs[2]? = some (.str file tf)) (hfile : ((P.main.file : Str) == file) = true)
    (hsub : PySem.W.mroIn K C (.ref C) = some true) (hsup : PySem.W.ks_superIn K C C "__init__" = some (some (.builtin "ValueError.__init__"))) (hVE : PySem.W.subIn K (.ref C) (.type "ValueError") = some true)
    (hsn : PySem.W.nsIn K mainGlobals "super" = some none) (hop : PySem.W.nsIn K cStatics "thirdparty.any" = some none)
    (hb : defBody st = .Expr (.Call (.Attribute (.Call (.Name "super" p0) [] [] p1) "__init__" p2) [.Constant (.str txt) j p3] [] p4) p5 :: .Assign [.Attribute (.Name "self" q1) f q2] (.Name f q3) q4 :: []) (hline : (p2.endLine == p4.line) = true)
    (hbi : ∀ s u v, BindsTo s (PySem.W.ksFn "__init__" qual (defArgs st) (defBody st) (defScope st) dV kV doc pm an (.ref cda) ct cc) ⟨.ref u :: moreA (some f) v, []⟩ (("self", .ref u) :: moreB (some f) v))
    (hp : ((defArgs st).posonlyargs ++ (defArgs st).args).head? = some ar) (har : ar.arg = "self")
    (s1 : (defScope st).names.lookup ("super" : Str) = some .globalImplicit) (s2 : (defScope st).names.lookup ("__class__" : Str) = some .free) (s3 : (defScope st).names.lookup ("self" : Str) = some .local)
    (t1 : (defScope st).names.lookup f = some .local) (t2 : f ≠ "self") (t3 : (f == ("__debug__" : Str)) = false) (t4 : PySem.W.findIn K (.ref C) f = some none)
    (s5 : ∀ x ∈ (defScope st).names, x.2 ≠ .cell) (s6 : (defScope st).isCoroutine = false) (s7 : (defScope st).isGenerator = false) (s8 : (defScope st).kind = .function) (s9 : (P.main.scope.names.lookup ("super" : Str)).isSome = false) : ErrI P K x (some f) :=
  ⟨C, S, E, E.T, fI, cc, cda, qual, txt, file, tf, defArgs st, defBody st, defScope st, dV, kV, doc, pm, ct, oc, ccl, cl, an, od, cdd, cld, osl, ccs, csl, vs, E.cd.choose, ar, p0, p1, p2, p3, p4, p5, j, [(q1, q2, q3, q4)],
    iC, tI, lk, hcd, lcc, lcd, hvs, hfile, hsub, hsup, hVE, hsn, hop, hb, hline, (fun _ => rfl), hbi, hp, har, s1, s2, s3, (fun g h => by cases h; exact ⟨t1, t2, t3, t4⟩), s5, s6, s7, s8, s9⟩
theorem ErrI.at_ {w : World} {mg : Str → Option Value} {base h : Heap} {k : Nat} {fld : Option Str} (E : ErrI P K x fld) (X : K.In h) (G : h.Ns mainGlobals mg) (hk : 1 ≤ k := by decide) : GAt P w K mg base k x (.err fld) := by
  obtain ⟨C, S, E1, E2⟩ := E.ex
  exact ⟨hk, C, PySem.W.mg_of X G E1.a, E2, E1.m X G⟩
theorem base_at {w : World} {mg : Str → Option Value} {base h : Heap} {k : Nat} (X : K.In h) (G : h.Ns mainGlobals mg) (s : PySem.W.nsIn K mainGlobals "SilentError" = some (some (.ref S))) : GAt P w K mg base k "SilentError" .base :=
  ⟨rfl, S, PySem.W.mg_of X G s⟩
end
end DL
set_option Elab.async false
set_option linter.all false
set_option maxRecDepth 100000
set_option maxHeartbeats 4000000
namespace DL.K05
open PySem PySem.Spec PyProof.Rows L2 DL

/-! ## each def -/
section
variable {P : Program} {w : World} {K : PySem.W.Frag} {mg : Str → Option Value} {base : Heap}
theorem sc__law_pot : FnScope c__law_pot.N ["_law_script"] (defScope s__law_pot) := ⟨rfl, rfl, rfl, by decide +kernel, rfl, by decide +kernel, by decide +kernel⟩
theorem ok__law_pot {k : Nat} {a : Addr} {fd : FuncData} (F : Fun K "_law_pot" "_law_pot" s__law_pot a fd) (G : GAll P w K mg base k g__law_pot) : FnG P w K mg base (L2.CX P w) (k + 1) a fd ["_law_script"] (spD K mg 1 r__law_pot) := by
  have q := fn_okD (C := c__law_pot) F sc__law_pot rfl (hg := fun x g e => G _ (PySem.mem_of_lookup e))
  rw [eq__law_pot] at q
  exact q
theorem sc__law_draw : FnScope c__law_draw.N ["_law_pot_here", "_law_many"] (defScope s__law_draw) := ⟨rfl, rfl, rfl, by decide +kernel, rfl, by decide +kernel, by decide +kernel⟩
theorem ok__law_draw {k : Nat} {a : Addr} {fd : FuncData} (F : Fun K "_law_draw" "_law_draw" s__law_draw a fd) (G : GAll P w K mg base k g__law_draw) : FnG P w K mg base (L2.CX P w) (k + 1) a fd ["_law_pot_here", "_law_many"] (spD K mg 2 r__law_draw) := by
  have q := fn_okD (C := c__law_draw) F sc__law_draw rfl (hg := fun x g e => G _ (PySem.mem_of_lookup e))
  rw [eq__law_draw] at q
  exact q
theorem sc__law_any : FnScope c__law_any.N ["_law_pot_here", "_law_things"] (defScope s__law_any) := ⟨rfl, rfl, rfl, by decide +kernel, rfl, by decide +kernel, by decide +kernel⟩
theorem ok__law_any {k : Nat} {a : Addr} {fd : FuncData} (F : Fun K "_law_any" "_law_any" s__law_any a fd) (G : GAll P w K mg base k g__law_any) : FnG P w K mg base (L2.CX P w) (k + 1) a fd ["_law_pot_here", "_law_things"] (spD K mg 2 r__law_any) := by
  have q := fn_okD (C := c__law_any) F sc__law_any rfl (hg := fun x g e => G _ (PySem.mem_of_lookup e))
  rw [eq__law_any] at q
  exact q
theorem sc__law_lot : FnScope c__law_lot.N ["_law_pot_here", "_law_many", "_law_values", "_law_most"] (defScope s__law_lot) := ⟨rfl, rfl, rfl, by decide +kernel, rfl, by decide +kernel, by decide +kernel⟩
theorem ok__law_lot {k : Nat} {a : Addr} {fd : FuncData} (F : Fun K "_law_lot" "_law_lot" s__law_lot a fd) (G : GAll P w K mg base k g__law_lot) : FnG P w K mg base (L2.CX P w) (k + 1) a fd ["_law_pot_here", "_law_many", "_law_values", "_law_most"] (spD K mg 4 Row.r__law_lot) := by
  have q := fn_okD (C := c__law_lot) F sc__law_lot rfl (hg := fun x g e => G _ (PySem.mem_of_lookup e))
  rw [eq__law_lot] at q
  exact q
theorem sc_is_integer : FnScope c_is_integer.N ["thing"] (defScope s_is_integer) := ⟨rfl, rfl, rfl, by decide +kernel, rfl, by decide +kernel, by decide +kernel⟩
theorem ok_is_integer {k : Nat} {a : Addr} {fd : FuncData} (F : Fun K "is_integer" "is_integer" s_is_integer a fd) (G : GAll P w K mg base k g_is_integer) : FnG P w K mg base (L2.CX P w) (k + 1) a fd ["thing"] (spD K mg 1 r_is_integer) := by
  have q := fn_okD (C := c_is_integer) F sc_is_integer rfl (hg := fun x g e => G _ (PySem.mem_of_lookup e))
  rw [eq_is_integer] at q
  exact q
theorem sc_is_within : FnScope c_is_within.N ["thing", "least", "most"] (defScope s_is_within) := ⟨rfl, rfl, rfl, by decide +kernel, rfl, by decide +kernel, by decide +kernel⟩
theorem ok_is_within {k : Nat} {a : Addr} {fd : FuncData} (F : Fun K "is_within" "is_within" s_is_within a fd) (G : GAll P w K mg base k g_is_within) : FnG P w K mg base (L2.CX P w) (k + 1) a fd ["thing", "least", "most"] (spD K mg 3 r_is_within) := by
  have q := fn_okD (C := c_is_within) F sc_is_within rfl (hg := fun x g e => G _ (PySem.mem_of_lookup e))
  rw [eq_is_within] at q
  exact q
theorem sc_is_many : FnScope c_is_many.N ["thing"] (defScope s_is_many) := ⟨rfl, rfl, rfl, by decide +kernel, rfl, by decide +kernel, by decide +kernel⟩
theorem ok_is_many {k : Nat} {a : Addr} {fd : FuncData} (F : Fun K "is_many" "is_many" s_is_many a fd) (G : GAll P w K mg base k g_is_many) : FnG P w K mg base (L2.CX P w) (k + 1) a fd ["thing"] (spD K mg 1 r_is_many) := by
  have q := fn_okD (C := c_is_many) F sc_is_many rfl (hg := fun x g e => G _ (PySem.mem_of_lookup e))
  rw [eq_is_many] at q
  exact q
theorem sc_is_sized : FnScope c_is_sized.N ["thing", "least", "most"] (defScope s_is_sized) := ⟨rfl, rfl, rfl, by decide +kernel, rfl, by decide +kernel, by decide +kernel⟩
theorem ok_is_sized {k : Nat} {a : Addr} {fd : FuncData} (F : Fun K "is_sized" "is_sized" s_is_sized a fd) (G : GAll P w K mg base k g_is_sized) : FnG P w K mg base (L2.CX P w) (k + 1) a fd ["thing", "least", "most"] (spD K mg 3 r_is_sized) := by
  have q := fn_okD (C := c_is_sized) F sc_is_sized rfl (hg := fun x g e => G _ (PySem.mem_of_lookup e))
  rw [eq_is_sized] at q
  exact q
theorem sc_is_row_of : FnScope c_is_row_of.N ["thing", "many"] (defScope s_is_row_of) := ⟨rfl, rfl, rfl, by decide +kernel, rfl, by decide +kernel, by decide +kernel⟩
theorem ok_is_row_of {k : Nat} {a : Addr} {fd : FuncData} (F : Fun K "is_row_of" "is_row_of" s_is_row_of a fd) (G : GAll P w K mg base k g_is_row_of) : FnG P w K mg base (L2.CX P w) (k + 1) a fd ["thing", "many"] (spD K mg 2 Row.r_is_row_of) := by
  have q := fn_okD (C := c_is_row_of) F sc_is_row_of rfl (hg := fun x g e => G _ (PySem.mem_of_lookup e))
  rw [eq_is_row_of] at q
  exact q
theorem sc_is_row : FnScope c_is_row.N ["thing"] (defScope s_is_row) := ⟨rfl, rfl, rfl, by decide +kernel, rfl, by decide +kernel, by decide +kernel⟩
theorem ok_is_row {k : Nat} {a : Addr} {fd : FuncData} (F : Fun K "is_row" "is_row" s_is_row a fd) (G : GAll P w K mg base k g_is_row) : FnG P w K mg base (L2.CX P w) (k + 1) a fd ["thing"] (spD K mg 1 Row.r_is_row) := by
  have q := fn_okD (C := c_is_row) F sc_is_row rfl (hg := fun x g e => G _ (PySem.mem_of_lookup e))
  rw [eq_is_row] at q
  exact q
theorem sc_are_rising : FnScope c_are_rising.N ["things"] (defScope s_are_rising) := ⟨rfl, rfl, rfl, by decide +kernel, rfl, by decide +kernel, by decide +kernel⟩
theorem ok_are_rising {k : Nat} {a : Addr} {fd : FuncData} (F : Fun K "are_rising" "are_rising" s_are_rising a fd) (G : GAll P w K mg base k g_are_rising) : FnG P w K mg base (L2.CX P w) (k + 1) a fd ["things"] (spD K mg 1 Row.r_are_rising) := by
  have q := fn_okD (C := c_are_rising) F sc_are_rising rfl (hg := fun x g e => G _ (PySem.mem_of_lookup e))
  rw [eq_are_rising] at q
  exact q
theorem sc_is_lot : FnScope c_is_lot.N ["thing"] (defScope s_is_lot) := ⟨rfl, rfl, rfl, by decide +kernel, rfl, by decide +kernel, by decide +kernel⟩
theorem ok_is_lot {k : Nat} {a : Addr} {fd : FuncData} (F : Fun K "is_lot" "is_lot" s_is_lot a fd) (G : GAll P w K mg base k g_is_lot) : FnG P w K mg base (L2.CX P w) (k + 1) a fd ["thing"] (spD K mg 1 Row.r_is_lot) := by
  have q := fn_okD (C := c_is_lot) F sc_is_lot rfl (hg := fun x g e => G _ (PySem.mem_of_lookup e))
  rw [eq_is_lot] at q
  exact q
theorem sc_check_lot : FnScope c_check_lot.N ["thing"] (defScope s_check_lot) := ⟨rfl, rfl, rfl, by decide +kernel, rfl, by decide +kernel, by decide +kernel⟩
theorem ok_check_lot {k : Nat} {a : Addr} {fd : FuncData} (F : Fun K "check_lot" "check_lot" s_check_lot a fd) (G : GAll P w K mg base k g_check_lot) : FnG P w K mg base (L2.CX P w) (k + 1) a fd ["thing"] (spD K mg 1 Row.r_check_lot) := by
  have q := fn_okD (C := c_check_lot) F sc_check_lot rfl (hg := fun x g e => G _ (PySem.mem_of_lookup e))
  rw [eq_check_lot] at q
  exact q
theorem sc_raw_rest : FnScope c_raw_rest.N ["row", "i"] (defScope s_raw_rest) := ⟨rfl, rfl, rfl, by decide +kernel, rfl, by decide +kernel, by decide +kernel⟩
theorem ok_raw_rest {k : Nat} {a : Addr} {fd : FuncData} (F : Fun K "raw_rest" "raw_rest" s_raw_rest a fd) (G : GAll P w K mg base k g_raw_rest) : FnG P w K mg base (L2.CX P w) (k + 1) a fd ["row", "i"] (spD K mg 2 Row.r_raw_rest) := by
  have q := fn_okD (C := c_raw_rest) F sc_raw_rest rfl (hg := fun x g e => G _ (PySem.mem_of_lookup e))
  rw [eq_raw_rest] at q
  exact q
theorem sc_rows_by_rests : FnScope c_rows_by_rests.N ["lot"] (defScope s_rows_by_rests) := ⟨rfl, rfl, rfl, by decide +kernel, rfl, by decide +kernel, by decide +kernel⟩
theorem ok_rows_by_rests {k : Nat} {a : Addr} {fd : FuncData} (F : Fun K "rows_by_rests" "rows_by_rests" s_rows_by_rests a fd) (G : GAll P w K mg base k g_rows_by_rests) : FnG P w K mg base (L2.CX P w) (k + 1) a fd ["lot"] (spD K mg 1 Row.r_rows_by_rests) := by
  have q := fn_okD (C := c_rows_by_rests) F sc_rows_by_rests rfl (hg := fun x g e => G _ (PySem.mem_of_lookup e))
  rw [eq_rows_by_rests] at q
  exact q
theorem sc_steps_from : FnScope c_steps_from.N ["groups", "begin"] (defScope s_steps_from) := ⟨rfl, rfl, rfl, by decide +kernel, rfl, by decide +kernel, by decide +kernel⟩
theorem ok_steps_from {k : Nat} {a : Addr} {fd : FuncData} (F : Fun K "steps_from" "steps_from" s_steps_from a fd) (G : GAll P w K mg base k g_steps_from) : FnG P w K mg base (L2.CX P w) (k + 1) a fd ["groups", "begin"] (spD K mg 2 Row.r_steps_from) := by
  have q := fn_okD (C := c_steps_from) F sc_steps_from rfl (hg := fun x g e => G _ (PySem.mem_of_lookup e))
  rw [eq_steps_from] at q
  exact q
theorem sc_raw_parts : FnScope c_raw_parts.N ["lot"] (defScope s_raw_parts) := ⟨rfl, rfl, rfl, by decide +kernel, rfl, by decide +kernel, by decide +kernel⟩
theorem ok_raw_parts {k : Nat} {a : Addr} {fd : FuncData} (F : Fun K "raw_parts" "raw_parts" s_raw_parts a fd) (G : GAll P w K mg base k g_raw_parts) : FnG P w K mg base (L2.CX P w) (k + 1) a fd ["lot"] (spD K mg 1 Row.r_raw_parts) := by
  have q := fn_okD (C := c_raw_parts) F sc_raw_parts rfl (hg := fun x g e => G _ (PySem.mem_of_lookup e))
  rw [eq_raw_parts] at q
  exact q
theorem sc_parts : FnScope c_parts.N ["lot"] (defScope s_parts) := ⟨rfl, rfl, rfl, by decide +kernel, rfl, by decide +kernel, by decide +kernel⟩
theorem ok_parts {k : Nat} {a : Addr} {fd : FuncData} (F : Fun K "parts" "parts" s_parts a fd) (G : GAll P w K mg base k g_parts) : FnG P w K mg base (L2.CX P w) (k + 1) a fd ["lot"] (spD K mg 1 r_parts) := by
  have q := fn_okD (C := c_parts) F sc_parts rfl (hg := fun x g e => G _ (PySem.mem_of_lookup e))
  rw [eq_parts] at q
  exact q
theorem sc__law_is : FnScope c0__law_is.N ["_law_told", "_law_due"] (defScope s__law_is) := ⟨rfl, rfl, rfl, by decide +kernel, rfl, by decide +kernel, by decide +kernel⟩
theorem ok__law_is {k : Nat} {a : Addr} {fd : FuncData} (F : Fun K "_law_is" "_law_is" s__law_is a fd) (B : Binds K fd ["_law_told", "_law_due"] []) (ha : mg "_law_is" = some (.ref a)) (hk : PySem.W.keepIn K (.ref a) = true) (G : GAll P w K mg base k g0__law_is) : ∀ j : Nat, FnG P w K mg base (L2.CX P w) (k + 1 + j) a fd ["_law_told", "_law_due"] (spD K mg 2 (r__law_is j))
  | 0 => fn_okD (C := c0__law_is) F sc__law_is rfl (hg := fun x g e => G _ (PySem.mem_of_lookup e))
  | j + 1 => by
    have q := fn_okD (C := c__law_is j) (k := k + 1 + j) F sc__law_is rfl (hg := fun x g e => (GAll.cons (fn_at (ok__law_is F B ha hk G j) ha hk B) (G.mono (by omega))) _ (PySem.mem_of_lookup e))
    rw [eq__law_is j] at q
    exact q
theorem sc__law_near : FnScope c__law_near.N ["_law_one", "_law_other"] (defScope s__law_near) := ⟨rfl, rfl, rfl, by decide +kernel, rfl, by decide +kernel, by decide +kernel⟩
theorem ok__law_near {k : Nat} {a : Addr} {fd : FuncData} (F : Fun K "_law_near" "_law_near" s__law_near a fd) (G : GAll P w K mg base k g__law_near) : FnG P w K mg base (L2.CX P w) (k + 1) a fd ["_law_one", "_law_other"] (spD K mg 2 Row.r__law_near) := by
  have q := fn_okD (C := c__law_near) F sc__law_near rfl (hg := fun x g e => G _ (PySem.mem_of_lookup e))
  rw [eq__law_near] at q
  exact q
theorem sc__law_parts : FnScope c__law_parts.N ["_law_lot_here"] (defScope s__law_parts) := ⟨rfl, rfl, rfl, by decide +kernel, rfl, by decide +kernel, by decide +kernel⟩
theorem ok__law_parts {k : Nat} {a : Addr} {fd : FuncData} (F : Fun K "_law_parts" "_law_parts" s__law_parts a fd) (G : GAll P w K mg base k g__law_parts) : FnG P w K mg base (L2.CX P w) (k + 1) a fd ["_law_lot_here"] (spD K mg 1 Row.r__law_parts) := by
  have q := fn_okD (C := c__law_parts) F sc__law_parts rfl (hg := fun x g e => G _ (PySem.mem_of_lookup e))
  rw [eq__law_parts] at q
  exact q
theorem sc__law_mixed : FnScope c__law_mixed.N ["_law_pot_here", "_law_things"] (defScope s__law_mixed) := ⟨rfl, rfl, rfl, by decide +kernel, rfl, by decide +kernel, by decide +kernel⟩
theorem ok__law_mixed {k : Nat} {a : Addr} {fd : FuncData} (F : Fun K "_law_mixed" "_law_mixed" s__law_mixed a fd) (G : GAll P w K mg base k g__law_mixed) : FnG P w K mg base (L2.CX P w) (k + 1) a fd ["_law_pot_here", "_law_things"] (spD K mg 2 r__law_mixed) := by
  have q := fn_okD (C := c__law_mixed) F sc__law_mixed rfl (hg := fun x g e => G _ (PySem.mem_of_lookup e))
  rw [eq__law_mixed] at q
  exact q
theorem sc__law_led : FnScope c__law_led.N ["_law_rows", "_law_order", "_law_names"] (defScope s__law_led) := ⟨rfl, rfl, rfl, by decide +kernel, rfl, by decide +kernel, by decide +kernel⟩
theorem ok__law_led {k : Nat} {a : Addr} {fd : FuncData} (F : Fun K "_law_led" "_law_led" s__law_led a fd) (G : GAll P w K mg base k g__law_led) : FnG P w K mg base (L2.CX P w) (k + 1) a fd ["_law_rows", "_law_order", "_law_names"] (spD K mg 3 r__law_led) := by
  have q := fn_okD (C := c__law_led) F sc__law_led rfl (hg := fun x g e => G _ (PySem.mem_of_lookup e))
  rw [eq__law_led] at q
  exact q
theorem sc_law : FnScope c_law.N ["_law_script"] (defScope s_law) := ⟨rfl, rfl, rfl, by decide +kernel, rfl, by decide +kernel, by decide +kernel⟩
theorem ok_law {k : Nat} {a : Addr} {fd : FuncData} (F : Fun K "law" "law" s_law a fd) (G : GAll P w K mg base k g_law) : FnG P w K mg base (L2.CX P w) (k + 1) a fd ["_law_script"] (spD K mg 1 r_law) := by
  have q := fn_okD (C := c_law) F sc_law rfl (hg := fun x g e => G _ (PySem.mem_of_lookup e))
  rw [eq_law] at q
  exact q
end
/-! ## what the top has written -/
theorem all_mk {l : PySem.W.OpenLaw} {w : World} {K : PySem.W.Frag} {h : Heap} {mg : Str → Option Value} {fa : Addr} (X : K.In h) (G : h.Ns mainGlobals mg) (hfa : mg "law" = some (.ref fa))
    {f__law_pot : Addr} {od__law_pot an__law_pot : Option Addr} {sl__law_pot : Array (Option Value)} {oc__law_pot kV__law_pot dc__law_pot pm__law_pot cd__law_pot ct__law_pot : Value} (a__law_pot : PySem.W.nsIn K mainGlobals "_law_pot" = some (some (.ref f__law_pot))) (l__law_pot : K.lookup f__law_pot = some ⟨oc__law_pot, od__law_pot, .func (PySem.W.fnOf "_law_pot" "_law_pot" (defArgs s__law_pot) (defBody s__law_pot) (defScope s__law_pot) .none kV__law_pot dc__law_pot pm__law_pot an__law_pot cd__law_pot ct__law_pot), sl__law_pot⟩) (c__law_pot_ : PySem.W.codeIn K cd__law_pot "_law_pot" = true) (k__law_pot : PySem.W.keepIn K (.ref f__law_pot) = true)
    {f__law_draw : Addr} {od__law_draw an__law_draw : Option Addr} {sl__law_draw : Array (Option Value)} {oc__law_draw kV__law_draw dc__law_draw pm__law_draw cd__law_draw ct__law_draw : Value} (a__law_draw : PySem.W.nsIn K mainGlobals "_law_draw" = some (some (.ref f__law_draw))) (l__law_draw : K.lookup f__law_draw = some ⟨oc__law_draw, od__law_draw, .func (PySem.W.fnOf "_law_draw" "_law_draw" (defArgs s__law_draw) (defBody s__law_draw) (defScope s__law_draw) .none kV__law_draw dc__law_draw pm__law_draw an__law_draw cd__law_draw ct__law_draw), sl__law_draw⟩) (c__law_draw_ : PySem.W.codeIn K cd__law_draw "_law_draw" = true) (k__law_draw : PySem.W.keepIn K (.ref f__law_draw) = true)
    {f__law_any : Addr} {od__law_any an__law_any : Option Addr} {sl__law_any : Array (Option Value)} {oc__law_any kV__law_any dc__law_any pm__law_any cd__law_any ct__law_any : Value} (a__law_any : PySem.W.nsIn K mainGlobals "_law_any" = some (some (.ref f__law_any))) (l__law_any : K.lookup f__law_any = some ⟨oc__law_any, od__law_any, .func (PySem.W.fnOf "_law_any" "_law_any" (defArgs s__law_any) (defBody s__law_any) (defScope s__law_any) .none kV__law_any dc__law_any pm__law_any an__law_any cd__law_any ct__law_any), sl__law_any⟩) (c__law_any_ : PySem.W.codeIn K cd__law_any "_law_any" = true) (k__law_any : PySem.W.keepIn K (.ref f__law_any) = true)
    {f__law_lot : Addr} {od__law_lot an__law_lot : Option Addr} {sl__law_lot : Array (Option Value)} {oc__law_lot kV__law_lot dc__law_lot pm__law_lot cd__law_lot ct__law_lot : Value} (a__law_lot : PySem.W.nsIn K mainGlobals "_law_lot" = some (some (.ref f__law_lot))) (l__law_lot : K.lookup f__law_lot = some ⟨oc__law_lot, od__law_lot, .func (PySem.W.fnOf "_law_lot" "_law_lot" (defArgs s__law_lot) (defBody s__law_lot) (defScope s__law_lot) .none kV__law_lot dc__law_lot pm__law_lot an__law_lot cd__law_lot ct__law_lot), sl__law_lot⟩) (c__law_lot_ : PySem.W.codeIn K cd__law_lot "_law_lot" = true) (k__law_lot : PySem.W.keepIn K (.ref f__law_lot) = true)
    {f_is_integer : Addr} {od_is_integer an_is_integer : Option Addr} {sl_is_integer : Array (Option Value)} {oc_is_integer kV_is_integer dc_is_integer pm_is_integer cd_is_integer ct_is_integer : Value} (a_is_integer : PySem.W.nsIn K mainGlobals "is_integer" = some (some (.ref f_is_integer))) (l_is_integer : K.lookup f_is_integer = some ⟨oc_is_integer, od_is_integer, .func (PySem.W.fnOf "is_integer" "is_integer" (defArgs s_is_integer) (defBody s_is_integer) (defScope s_is_integer) .none kV_is_integer dc_is_integer pm_is_integer an_is_integer cd_is_integer ct_is_integer), sl_is_integer⟩) (c_is_integer_ : PySem.W.codeIn K cd_is_integer "is_integer" = true) (k_is_integer : PySem.W.keepIn K (.ref f_is_integer) = true)
    {f_is_within : Addr} {od_is_within an_is_within : Option Addr} {sl_is_within : Array (Option Value)} {oc_is_within kV_is_within dc_is_within pm_is_within cd_is_within ct_is_within : Value} (a_is_within : PySem.W.nsIn K mainGlobals "is_within" = some (some (.ref f_is_within))) (l_is_within : K.lookup f_is_within = some ⟨oc_is_within, od_is_within, .func (PySem.W.fnOf "is_within" "is_within" (defArgs s_is_within) (defBody s_is_within) (defScope s_is_within) .none kV_is_within dc_is_within pm_is_within an_is_within cd_is_within ct_is_within), sl_is_within⟩) (c_is_within_ : PySem.W.codeIn K cd_is_within "is_within" = true) (k_is_within : PySem.W.keepIn K (.ref f_is_within) = true)
    {f_is_many : Addr} {od_is_many an_is_many : Option Addr} {sl_is_many : Array (Option Value)} {oc_is_many kV_is_many dc_is_many pm_is_many cd_is_many ct_is_many : Value} (a_is_many : PySem.W.nsIn K mainGlobals "is_many" = some (some (.ref f_is_many))) (l_is_many : K.lookup f_is_many = some ⟨oc_is_many, od_is_many, .func (PySem.W.fnOf "is_many" "is_many" (defArgs s_is_many) (defBody s_is_many) (defScope s_is_many) .none kV_is_many dc_is_many pm_is_many an_is_many cd_is_many ct_is_many), sl_is_many⟩) (c_is_many_ : PySem.W.codeIn K cd_is_many "is_many" = true) (k_is_many : PySem.W.keepIn K (.ref f_is_many) = true)
    {f_is_sized : Addr} {od_is_sized an_is_sized : Option Addr} {sl_is_sized : Array (Option Value)} {oc_is_sized kV_is_sized dc_is_sized pm_is_sized cd_is_sized ct_is_sized : Value} (a_is_sized : PySem.W.nsIn K mainGlobals "is_sized" = some (some (.ref f_is_sized))) (l_is_sized : K.lookup f_is_sized = some ⟨oc_is_sized, od_is_sized, .func (PySem.W.fnOf "is_sized" "is_sized" (defArgs s_is_sized) (defBody s_is_sized) (defScope s_is_sized) .none kV_is_sized dc_is_sized pm_is_sized an_is_sized cd_is_sized ct_is_sized), sl_is_sized⟩) (c_is_sized_ : PySem.W.codeIn K cd_is_sized "is_sized" = true) (k_is_sized : PySem.W.keepIn K (.ref f_is_sized) = true)
    {f_is_row_of : Addr} {od_is_row_of an_is_row_of : Option Addr} {sl_is_row_of : Array (Option Value)} {oc_is_row_of kV_is_row_of dc_is_row_of pm_is_row_of cd_is_row_of ct_is_row_of : Value} (a_is_row_of : PySem.W.nsIn K mainGlobals "is_row_of" = some (some (.ref f_is_row_of))) (l_is_row_of : K.lookup f_is_row_of = some ⟨oc_is_row_of, od_is_row_of, .func (PySem.W.fnOf "is_row_of" "is_row_of" (defArgs s_is_row_of) (defBody s_is_row_of) (defScope s_is_row_of) .none kV_is_row_of dc_is_row_of pm_is_row_of an_is_row_of cd_is_row_of ct_is_row_of), sl_is_row_of⟩) (c_is_row_of_ : PySem.W.codeIn K cd_is_row_of "is_row_of" = true) (k_is_row_of : PySem.W.keepIn K (.ref f_is_row_of) = true)
    {f_is_row : Addr} {od_is_row an_is_row : Option Addr} {sl_is_row : Array (Option Value)} {oc_is_row kV_is_row dc_is_row pm_is_row cd_is_row ct_is_row : Value} (a_is_row : PySem.W.nsIn K mainGlobals "is_row" = some (some (.ref f_is_row))) (l_is_row : K.lookup f_is_row = some ⟨oc_is_row, od_is_row, .func (PySem.W.fnOf "is_row" "is_row" (defArgs s_is_row) (defBody s_is_row) (defScope s_is_row) .none kV_is_row dc_is_row pm_is_row an_is_row cd_is_row ct_is_row), sl_is_row⟩) (c_is_row_ : PySem.W.codeIn K cd_is_row "is_row" = true) (k_is_row : PySem.W.keepIn K (.ref f_is_row) = true)
    {f_are_rising : Addr} {od_are_rising an_are_rising : Option Addr} {sl_are_rising : Array (Option Value)} {oc_are_rising kV_are_rising dc_are_rising pm_are_rising cd_are_rising ct_are_rising : Value} (a_are_rising : PySem.W.nsIn K mainGlobals "are_rising" = some (some (.ref f_are_rising))) (l_are_rising : K.lookup f_are_rising = some ⟨oc_are_rising, od_are_rising, .func (PySem.W.fnOf "are_rising" "are_rising" (defArgs s_are_rising) (defBody s_are_rising) (defScope s_are_rising) .none kV_are_rising dc_are_rising pm_are_rising an_are_rising cd_are_rising ct_are_rising), sl_are_rising⟩) (c_are_rising_ : PySem.W.codeIn K cd_are_rising "are_rising" = true) (k_are_rising : PySem.W.keepIn K (.ref f_are_rising) = true)
    {f_is_lot : Addr} {od_is_lot an_is_lot : Option Addr} {sl_is_lot : Array (Option Value)} {oc_is_lot kV_is_lot dc_is_lot pm_is_lot cd_is_lot ct_is_lot : Value} (a_is_lot : PySem.W.nsIn K mainGlobals "is_lot" = some (some (.ref f_is_lot))) (l_is_lot : K.lookup f_is_lot = some ⟨oc_is_lot, od_is_lot, .func (PySem.W.fnOf "is_lot" "is_lot" (defArgs s_is_lot) (defBody s_is_lot) (defScope s_is_lot) .none kV_is_lot dc_is_lot pm_is_lot an_is_lot cd_is_lot ct_is_lot), sl_is_lot⟩) (c_is_lot_ : PySem.W.codeIn K cd_is_lot "is_lot" = true) (k_is_lot : PySem.W.keepIn K (.ref f_is_lot) = true)
    {f_check_lot : Addr} {od_check_lot an_check_lot : Option Addr} {sl_check_lot : Array (Option Value)} {oc_check_lot kV_check_lot dc_check_lot pm_check_lot cd_check_lot ct_check_lot : Value} (a_check_lot : PySem.W.nsIn K mainGlobals "check_lot" = some (some (.ref f_check_lot))) (l_check_lot : K.lookup f_check_lot = some ⟨oc_check_lot, od_check_lot, .func (PySem.W.fnOf "check_lot" "check_lot" (defArgs s_check_lot) (defBody s_check_lot) (defScope s_check_lot) .none kV_check_lot dc_check_lot pm_check_lot an_check_lot cd_check_lot ct_check_lot), sl_check_lot⟩) (c_check_lot_ : PySem.W.codeIn K cd_check_lot "check_lot" = true) (k_check_lot : PySem.W.keepIn K (.ref f_check_lot) = true)
    {f_raw_rest : Addr} {od_raw_rest an_raw_rest : Option Addr} {sl_raw_rest : Array (Option Value)} {oc_raw_rest kV_raw_rest dc_raw_rest pm_raw_rest cd_raw_rest ct_raw_rest : Value} (a_raw_rest : PySem.W.nsIn K mainGlobals "raw_rest" = some (some (.ref f_raw_rest))) (l_raw_rest : K.lookup f_raw_rest = some ⟨oc_raw_rest, od_raw_rest, .func (PySem.W.fnOf "raw_rest" "raw_rest" (defArgs s_raw_rest) (defBody s_raw_rest) (defScope s_raw_rest) .none kV_raw_rest dc_raw_rest pm_raw_rest an_raw_rest cd_raw_rest ct_raw_rest), sl_raw_rest⟩) (c_raw_rest_ : PySem.W.codeIn K cd_raw_rest "raw_rest" = true) (k_raw_rest : PySem.W.keepIn K (.ref f_raw_rest) = true)
    {f_rows_by_rests : Addr} {od_rows_by_rests an_rows_by_rests : Option Addr} {sl_rows_by_rests : Array (Option Value)} {oc_rows_by_rests kV_rows_by_rests dc_rows_by_rests pm_rows_by_rests cd_rows_by_rests ct_rows_by_rests : Value} (a_rows_by_rests : PySem.W.nsIn K mainGlobals "rows_by_rests" = some (some (.ref f_rows_by_rests))) (l_rows_by_rests : K.lookup f_rows_by_rests = some ⟨oc_rows_by_rests, od_rows_by_rests, .func (PySem.W.fnOf "rows_by_rests" "rows_by_rests" (defArgs s_rows_by_rests) (defBody s_rows_by_rests) (defScope s_rows_by_rests) .none kV_rows_by_rests dc_rows_by_rests pm_rows_by_rests an_rows_by_rests cd_rows_by_rests ct_rows_by_rests), sl_rows_by_rests⟩) (c_rows_by_rests_ : PySem.W.codeIn K cd_rows_by_rests "rows_by_rests" = true) (k_rows_by_rests : PySem.W.keepIn K (.ref f_rows_by_rests) = true)
    {f_steps_from : Addr} {od_steps_from an_steps_from : Option Addr} {sl_steps_from : Array (Option Value)} {oc_steps_from kV_steps_from dc_steps_from pm_steps_from cd_steps_from ct_steps_from : Value} (a_steps_from : PySem.W.nsIn K mainGlobals "steps_from" = some (some (.ref f_steps_from))) (l_steps_from : K.lookup f_steps_from = some ⟨oc_steps_from, od_steps_from, .func (PySem.W.fnOf "steps_from" "steps_from" (defArgs s_steps_from) (defBody s_steps_from) (defScope s_steps_from) .none kV_steps_from dc_steps_from pm_steps_from an_steps_from cd_steps_from ct_steps_from), sl_steps_from⟩) (c_steps_from_ : PySem.W.codeIn K cd_steps_from "steps_from" = true) (k_steps_from : PySem.W.keepIn K (.ref f_steps_from) = true)
    {f_raw_parts : Addr} {od_raw_parts an_raw_parts : Option Addr} {sl_raw_parts : Array (Option Value)} {oc_raw_parts kV_raw_parts dc_raw_parts pm_raw_parts cd_raw_parts ct_raw_parts : Value} (a_raw_parts : PySem.W.nsIn K mainGlobals "raw_parts" = some (some (.ref f_raw_parts))) (l_raw_parts : K.lookup f_raw_parts = some ⟨oc_raw_parts, od_raw_parts, .func (PySem.W.fnOf "raw_parts" "raw_parts" (defArgs s_raw_parts) (defBody s_raw_parts) (defScope s_raw_parts) .none kV_raw_parts dc_raw_parts pm_raw_parts an_raw_parts cd_raw_parts ct_raw_parts), sl_raw_parts⟩) (c_raw_parts_ : PySem.W.codeIn K cd_raw_parts "raw_parts" = true) (k_raw_parts : PySem.W.keepIn K (.ref f_raw_parts) = true)
    {f_parts : Addr} {od_parts an_parts : Option Addr} {sl_parts : Array (Option Value)} {oc_parts kV_parts dc_parts pm_parts cd_parts ct_parts : Value} (a_parts : PySem.W.nsIn K mainGlobals "parts" = some (some (.ref f_parts))) (l_parts : K.lookup f_parts = some ⟨oc_parts, od_parts, .func (PySem.W.fnOf "parts" "parts" (defArgs s_parts) (defBody s_parts) (defScope s_parts) .none kV_parts dc_parts pm_parts an_parts cd_parts ct_parts), sl_parts⟩) (c_parts_ : PySem.W.codeIn K cd_parts "parts" = true) (k_parts : PySem.W.keepIn K (.ref f_parts) = true)
    {f__law_is : Addr} {od__law_is an__law_is : Option Addr} {sl__law_is : Array (Option Value)} {oc__law_is kV__law_is dc__law_is pm__law_is cd__law_is ct__law_is : Value} (a__law_is : PySem.W.nsIn K mainGlobals "_law_is" = some (some (.ref f__law_is))) (l__law_is : K.lookup f__law_is = some ⟨oc__law_is, od__law_is, .func (PySem.W.fnOf "_law_is" "_law_is" (defArgs s__law_is) (defBody s__law_is) (defScope s__law_is) .none kV__law_is dc__law_is pm__law_is an__law_is cd__law_is ct__law_is), sl__law_is⟩) (c__law_is_ : PySem.W.codeIn K cd__law_is "_law_is" = true) (k__law_is : PySem.W.keepIn K (.ref f__law_is) = true)
    {f__law_near : Addr} {od__law_near an__law_near : Option Addr} {sl__law_near : Array (Option Value)} {oc__law_near kV__law_near dc__law_near pm__law_near cd__law_near ct__law_near : Value} (a__law_near : PySem.W.nsIn K mainGlobals "_law_near" = some (some (.ref f__law_near))) (l__law_near : K.lookup f__law_near = some ⟨oc__law_near, od__law_near, .func (PySem.W.fnOf "_law_near" "_law_near" (defArgs s__law_near) (defBody s__law_near) (defScope s__law_near) .none kV__law_near dc__law_near pm__law_near an__law_near cd__law_near ct__law_near), sl__law_near⟩) (c__law_near_ : PySem.W.codeIn K cd__law_near "_law_near" = true) (k__law_near : PySem.W.keepIn K (.ref f__law_near) = true)
    {f__law_parts : Addr} {od__law_parts an__law_parts : Option Addr} {sl__law_parts : Array (Option Value)} {oc__law_parts kV__law_parts dc__law_parts pm__law_parts cd__law_parts ct__law_parts : Value} (a__law_parts : PySem.W.nsIn K mainGlobals "_law_parts" = some (some (.ref f__law_parts))) (l__law_parts : K.lookup f__law_parts = some ⟨oc__law_parts, od__law_parts, .func (PySem.W.fnOf "_law_parts" "_law_parts" (defArgs s__law_parts) (defBody s__law_parts) (defScope s__law_parts) .none kV__law_parts dc__law_parts pm__law_parts an__law_parts cd__law_parts ct__law_parts), sl__law_parts⟩) (c__law_parts_ : PySem.W.codeIn K cd__law_parts "_law_parts" = true) (k__law_parts : PySem.W.keepIn K (.ref f__law_parts) = true)
    {f__law_mixed : Addr} {od__law_mixed an__law_mixed : Option Addr} {sl__law_mixed : Array (Option Value)} {oc__law_mixed kV__law_mixed dc__law_mixed pm__law_mixed cd__law_mixed ct__law_mixed : Value} (a__law_mixed : PySem.W.nsIn K mainGlobals "_law_mixed" = some (some (.ref f__law_mixed))) (l__law_mixed : K.lookup f__law_mixed = some ⟨oc__law_mixed, od__law_mixed, .func (PySem.W.fnOf "_law_mixed" "_law_mixed" (defArgs s__law_mixed) (defBody s__law_mixed) (defScope s__law_mixed) .none kV__law_mixed dc__law_mixed pm__law_mixed an__law_mixed cd__law_mixed ct__law_mixed), sl__law_mixed⟩) (c__law_mixed_ : PySem.W.codeIn K cd__law_mixed "_law_mixed" = true) (k__law_mixed : PySem.W.keepIn K (.ref f__law_mixed) = true)
    {f__law_led : Addr} {od__law_led an__law_led : Option Addr} {sl__law_led : Array (Option Value)} {oc__law_led kV__law_led dc__law_led pm__law_led cd__law_led ct__law_led : Value} (a__law_led : PySem.W.nsIn K mainGlobals "_law_led" = some (some (.ref f__law_led))) (l__law_led : K.lookup f__law_led = some ⟨oc__law_led, od__law_led, .func (PySem.W.fnOf "_law_led" "_law_led" (defArgs s__law_led) (defBody s__law_led) (defScope s__law_led) .none kV__law_led dc__law_led pm__law_led an__law_led cd__law_led ct__law_led), sl__law_led⟩) (c__law_led_ : PySem.W.codeIn K cd__law_led "_law_led" = true) (k__law_led : PySem.W.keepIn K (.ref f__law_led) = true)
    {f_law : Addr} {od_law an_law : Option Addr} {sl_law : Array (Option Value)} {oc_law kV_law dc_law pm_law cd_law ct_law : Value} (a_law : PySem.W.nsIn K mainGlobals "law" = some (some (.ref f_law))) (l_law : K.lookup f_law = some ⟨oc_law, od_law, .func (PySem.W.fnOf "law" "law" (defArgs s_law) (defBody s_law) (defScope s_law) .none kV_law dc_law pm_law an_law cd_law ct_law), sl_law⟩) (c_law_ : PySem.W.codeIn K cd_law "law" = true) (k_law : PySem.W.keepIn K (.ref f_law) = true)
    {t_LEAST_MANY : Tok} (a_LEAST_MANY : PySem.W.nsIn K mainGlobals "LEAST_MANY" = some (some (Value.int 3 t_LEAST_MANY)))
    {t_MOST_MANY : Tok} (a_MOST_MANY : PySem.W.nsIn K mainGlobals "MOST_MANY" = some (some (Value.int 5 t_MOST_MANY)))
    (e_NoLot : ErrI l.prog K "NoLot" none)
    (z_abs : PySem.W.nsIn K mainGlobals "abs" = some none)
    (z_all : PySem.W.nsIn K mainGlobals "all" = some none)
    (z_bool : PySem.W.nsIn K mainGlobals "bool" = some none)
    (z_int : PySem.W.nsIn K mainGlobals "int" = some none)
    (z_isinstance : PySem.W.nsIn K mainGlobals "isinstance" = some none)
    (z_len : PySem.W.nsIn K mainGlobals "len" = some none)
    (z_list : PySem.W.nsIn K mainGlobals "list" = some none)
    (z_range : PySem.W.nsIn K mainGlobals "range" = some none)
    (z_set : PySem.W.nsIn K mainGlobals "set" = some none)
    (z_sorted : PySem.W.nsIn K mainGlobals "sorted" = some none)
    (z_tuple : PySem.W.nsIn K mainGlobals "tuple" = some none)
    (z_zip : PySem.W.nsIn K mainGlobals "zip" = some none)
    : ∃ fd : FuncData, (∀ (s : Shared) (v : Value), BindsTo s fd ⟨[v], []⟩ [("_law_script", v)]) ∧ ∀ base : Heap, K.In base → base.Ns mainGlobals mg → FnG l.prog w K mg base (L2.CX l.prog w) 10 fa fd ["_law_script"] (spD K mg 1 r_law) := by
  have e := hfa.symm.trans (PySem.W.mg_of X G a_law)
  cases e
  have F__law_pot := fun_mk (st := s__law_pot) l__law_pot c__law_pot_ k__law_pot
  have B__law_pot := F__law_pot.binds (ps := ["_law_script"]) fun _ _ _ _ _ _ us hl => match us, hl with | [_], _ => rfl
  have F__law_draw := fun_mk (st := s__law_draw) l__law_draw c__law_draw_ k__law_draw
  have B__law_draw := F__law_draw.binds (ps := ["_law_pot_here", "_law_many"]) fun _ _ _ _ _ _ us hl => match us, hl with | [_, _], _ => rfl
  have F__law_any := fun_mk (st := s__law_any) l__law_any c__law_any_ k__law_any
  have B__law_any := F__law_any.binds (ps := ["_law_pot_here", "_law_things"]) fun _ _ _ _ _ _ us hl => match us, hl with | [_, _], _ => rfl
  have F__law_lot := fun_mk (st := s__law_lot) l__law_lot c__law_lot_ k__law_lot
  have B__law_lot := F__law_lot.binds (ps := ["_law_pot_here", "_law_many", "_law_values", "_law_most"]) fun _ _ _ _ _ _ us hl => match us, hl with | [_, _, _, _], _ => rfl
  have F_is_integer := fun_mk (st := s_is_integer) l_is_integer c_is_integer_ k_is_integer
  have B_is_integer := F_is_integer.binds (ps := ["thing"]) fun _ _ _ _ _ _ us hl => match us, hl with | [_], _ => rfl
  have F_is_within := fun_mk (st := s_is_within) l_is_within c_is_within_ k_is_within
  have B_is_within := F_is_within.binds (ps := ["thing", "least", "most"]) fun _ _ _ _ _ _ us hl => match us, hl with | [_, _, _], _ => rfl
  have F_is_many := fun_mk (st := s_is_many) l_is_many c_is_many_ k_is_many
  have B_is_many := F_is_many.binds (ps := ["thing"]) fun _ _ _ _ _ _ us hl => match us, hl with | [_], _ => rfl
  have F_is_sized := fun_mk (st := s_is_sized) l_is_sized c_is_sized_ k_is_sized
  have B_is_sized := F_is_sized.binds (ps := ["thing", "least", "most"]) fun _ _ _ _ _ _ us hl => match us, hl with | [_, _, _], _ => rfl
  have F_is_row_of := fun_mk (st := s_is_row_of) l_is_row_of c_is_row_of_ k_is_row_of
  have B_is_row_of := F_is_row_of.binds (ps := ["thing", "many"]) fun _ _ _ _ _ _ us hl => match us, hl with | [_, _], _ => rfl
  have F_is_row := fun_mk (st := s_is_row) l_is_row c_is_row_ k_is_row
  have B_is_row := F_is_row.binds (ps := ["thing"]) fun _ _ _ _ _ _ us hl => match us, hl with | [_], _ => rfl
  have F_are_rising := fun_mk (st := s_are_rising) l_are_rising c_are_rising_ k_are_rising
  have B_are_rising := F_are_rising.binds (ps := ["things"]) fun _ _ _ _ _ _ us hl => match us, hl with | [_], _ => rfl
  have F_is_lot := fun_mk (st := s_is_lot) l_is_lot c_is_lot_ k_is_lot
  have B_is_lot := F_is_lot.binds (ps := ["thing"]) fun _ _ _ _ _ _ us hl => match us, hl with | [_], _ => rfl
  have F_check_lot := fun_mk (st := s_check_lot) l_check_lot c_check_lot_ k_check_lot
  have B_check_lot := F_check_lot.binds (ps := ["thing"]) fun _ _ _ _ _ _ us hl => match us, hl with | [_], _ => rfl
  have F_raw_rest := fun_mk (st := s_raw_rest) l_raw_rest c_raw_rest_ k_raw_rest
  have B_raw_rest := F_raw_rest.binds (ps := ["row", "i"]) fun _ _ _ _ _ _ us hl => match us, hl with | [_, _], _ => rfl
  have F_rows_by_rests := fun_mk (st := s_rows_by_rests) l_rows_by_rests c_rows_by_rests_ k_rows_by_rests
  have B_rows_by_rests := F_rows_by_rests.binds (ps := ["lot"]) fun _ _ _ _ _ _ us hl => match us, hl with | [_], _ => rfl
  have F_steps_from := fun_mk (st := s_steps_from) l_steps_from c_steps_from_ k_steps_from
  have B_steps_from := F_steps_from.binds (ps := ["groups", "begin"]) fun _ _ _ _ _ _ us hl => match us, hl with | [_, _], _ => rfl
  have F_raw_parts := fun_mk (st := s_raw_parts) l_raw_parts c_raw_parts_ k_raw_parts
  have B_raw_parts := F_raw_parts.binds (ps := ["lot"]) fun _ _ _ _ _ _ us hl => match us, hl with | [_], _ => rfl
  have F_parts := fun_mk (st := s_parts) l_parts c_parts_ k_parts
  have B_parts := F_parts.binds (ps := ["lot"]) fun _ _ _ _ _ _ us hl => match us, hl with | [_], _ => rfl
  have F__law_is := fun_mk (st := s__law_is) l__law_is c__law_is_ k__law_is
  have B__law_is := F__law_is.binds (ps := ["_law_told", "_law_due"]) fun _ _ _ _ _ _ us hl => match us, hl with | [_, _], _ => rfl
  have F__law_near := fun_mk (st := s__law_near) l__law_near c__law_near_ k__law_near
  have B__law_near := F__law_near.binds (ps := ["_law_one", "_law_other"]) fun _ _ _ _ _ _ us hl => match us, hl with | [_, _], _ => rfl
  have F__law_parts := fun_mk (st := s__law_parts) l__law_parts c__law_parts_ k__law_parts
  have B__law_parts := F__law_parts.binds (ps := ["_law_lot_here"]) fun _ _ _ _ _ _ us hl => match us, hl with | [_], _ => rfl
  have F__law_mixed := fun_mk (st := s__law_mixed) l__law_mixed c__law_mixed_ k__law_mixed
  have B__law_mixed := F__law_mixed.binds (ps := ["_law_pot_here", "_law_things"]) fun _ _ _ _ _ _ us hl => match us, hl with | [_, _], _ => rfl
  have F__law_led := fun_mk (st := s__law_led) l__law_led c__law_led_ k__law_led
  have B__law_led := F__law_led.binds (ps := ["_law_rows", "_law_order", "_law_names"]) fun _ _ _ _ _ _ us hl => match us, hl with | [_, _, _], _ => rfl
  have F_law := fun_mk (st := s_law) l_law c_law_ k_law
  have B_law := F_law.binds (ps := ["_law_script"]) fun _ _ _ _ _ _ us hl => match us, hl with | [_], _ => rfl
  refine ⟨PySem.W.fnOf "law" "law" (defArgs s_law) (defBody s_law) (defScope s_law) .none kV_law dc_law pm_law an_law cd_law ct_law, fun s v => .of_eq rfl, fun base _ _ => ?_⟩
  have O__law_pot : FnG l.prog w K mg base (L2.CX l.prog w) 1 _ _ _ (spD K mg 1 r__law_pot) := ok__law_pot (k := 0) F__law_pot (.cons (PySem.W.mg_none_of X G z_abs) (.cons (PySem.W.mg_none_of X G z_int) (.cons (PySem.W.mg_none_of X G z_len) (GAll.nil))))
  have O__law_draw : FnG l.prog w K mg base (L2.CX l.prog w) 1 _ _ _ (spD K mg 2 r__law_draw) := ok__law_draw (k := 0) F__law_draw (.cons (PySem.W.mg_none_of X G z_len) (.cons (PySem.W.mg_none_of X G z_int) (GAll.nil)))
  have O__law_any : FnG l.prog w K mg base (L2.CX l.prog w) 2 _ _ _ (spD K mg 2 r__law_any) := ok__law_any (k := 1) F__law_any (.cons ((fn_at O__law_draw (PySem.W.mg_of X G a__law_draw) k__law_draw B__law_draw).mono (by decide)) (.cons (PySem.W.mg_none_of X G z_len) (GAll.nil)))
  have O__law_lot : FnG l.prog w K mg base (L2.CX l.prog w) 3 _ _ _ (spD K mg 4 Row.r__law_lot) := ok__law_lot (k := 2) F__law_lot (.cons (PySem.W.mg_none_of X G z_tuple) (.cons (PySem.W.mg_none_of X G z_range) (.cons ((fn_at O__law_draw (PySem.W.mg_of X G a__law_draw) k__law_draw B__law_draw).mono (by decide)) (.cons ((fn_at O__law_any (PySem.W.mg_of X G a__law_any) k__law_any B__law_any).mono (by decide)) (.cons (PySem.W.mg_none_of X G z_sorted) (.cons (PySem.W.mg_none_of X G z_set) (GAll.nil)))))))
  have O_is_integer : FnG l.prog w K mg base (L2.CX l.prog w) 1 _ _ _ (spD K mg 1 r_is_integer) := ok_is_integer (k := 0) F_is_integer (.cons (PySem.W.mg_none_of X G z_isinstance) (.cons (PySem.W.mg_none_of X G z_int) (.cons (PySem.W.mg_none_of X G z_bool) (GAll.nil))))
  have O_is_within : FnG l.prog w K mg base (L2.CX l.prog w) 2 _ _ _ (spD K mg 3 r_is_within) := ok_is_within (k := 1) F_is_within (.cons ((fn_at O_is_integer (PySem.W.mg_of X G a_is_integer) k_is_integer B_is_integer).mono (by decide)) (GAll.nil))
  have O_is_many : FnG l.prog w K mg base (L2.CX l.prog w) 3 _ _ _ (spD K mg 1 r_is_many) := ok_is_many (k := 2) F_is_many (.cons ((fn_at O_is_within (PySem.W.mg_of X G a_is_within) k_is_within B_is_within).mono (by decide)) (.cons (val_int (PySem.W.mg_of X G a_LEAST_MANY)) (.cons (val_int (PySem.W.mg_of X G a_MOST_MANY)) (GAll.nil))))
  have O_is_sized : FnG l.prog w K mg base (L2.CX l.prog w) 1 _ _ _ (spD K mg 3 r_is_sized) := ok_is_sized (k := 0) F_is_sized (.cons (PySem.W.mg_none_of X G z_isinstance) (.cons (PySem.W.mg_none_of X G z_tuple) (.cons (PySem.W.mg_none_of X G z_len) (GAll.nil))))
  have O_is_row_of : FnG l.prog w K mg base (L2.CX l.prog w) 2 _ _ _ (spD K mg 2 Row.r_is_row_of) := ok_is_row_of (k := 1) F_is_row_of (.cons ((fn_at O_is_sized (PySem.W.mg_of X G a_is_sized) k_is_sized B_is_sized).mono (by decide)) (.cons (PySem.W.mg_none_of X G z_all) (.cons ((fn_at O_is_integer (PySem.W.mg_of X G a_is_integer) k_is_integer B_is_integer).mono (by decide)) (GAll.nil))))
  have O_is_row : FnG l.prog w K mg base (L2.CX l.prog w) 4 _ _ _ (spD K mg 1 Row.r_is_row) := ok_is_row (k := 3) F_is_row (.cons (PySem.W.mg_none_of X G z_isinstance) (.cons (PySem.W.mg_none_of X G z_tuple) (.cons ((fn_at O_is_many (PySem.W.mg_of X G a_is_many) k_is_many B_is_many).mono (by decide)) (.cons (PySem.W.mg_none_of X G z_len) (.cons ((fn_at O_is_row_of (PySem.W.mg_of X G a_is_row_of) k_is_row_of B_is_row_of).mono (by decide)) (GAll.nil))))))
  have O_are_rising : FnG l.prog w K mg base (L2.CX l.prog w) 1 _ _ _ (spD K mg 1 Row.r_are_rising) := ok_are_rising (k := 0) F_are_rising (.cons (PySem.W.mg_none_of X G z_all) (.cons (PySem.W.mg_none_of X G z_zip) (GAll.nil)))
  have O_is_lot : FnG l.prog w K mg base (L2.CX l.prog w) 5 _ _ _ (spD K mg 1 Row.r_is_lot) := ok_is_lot (k := 4) F_is_lot (.cons (PySem.W.mg_none_of X G z_isinstance) (.cons (PySem.W.mg_none_of X G z_tuple) (.cons (PySem.W.mg_none_of X G z_len) (.cons ((fn_at O_is_row (PySem.W.mg_of X G a_is_row) k_is_row B_is_row).mono (by decide)) (.cons (PySem.W.mg_none_of X G z_all) (.cons ((fn_at O_is_row_of (PySem.W.mg_of X G a_is_row_of) k_is_row_of B_is_row_of).mono (by decide)) (.cons ((fn_at O_are_rising (PySem.W.mg_of X G a_are_rising) k_are_rising B_are_rising).mono (by decide)) (GAll.nil))))))))
  have O_check_lot : FnG l.prog w K mg base (L2.CX l.prog w) 6 _ _ _ (spD K mg 1 Row.r_check_lot) := ok_check_lot (k := 5) F_check_lot (.cons ((fn_at O_is_lot (PySem.W.mg_of X G a_is_lot) k_is_lot B_is_lot).mono (by decide)) (.cons (e_NoLot.at_ X G) (GAll.nil)))
  have O_raw_rest : FnG l.prog w K mg base (L2.CX l.prog w) 1 _ _ _ (spD K mg 2 Row.r_raw_rest) := ok_raw_rest (k := 0) F_raw_rest (GAll.nil)
  have O_rows_by_rests : FnG l.prog w K mg base (L2.CX l.prog w) 2 _ _ _ (spD K mg 1 Row.r_rows_by_rests) := ok_rows_by_rests (k := 1) F_rows_by_rests (.cons (PySem.W.mg_none_of X G z_range) (.cons (PySem.W.mg_none_of X G z_len) (.cons ((fn_at O_raw_rest (PySem.W.mg_of X G a_raw_rest) k_raw_rest B_raw_rest).mono (by decide)) (GAll.nil))))
  have O_steps_from : FnG l.prog w K mg base (L2.CX l.prog w) 2 _ _ _ (spD K mg 2 Row.r_steps_from) := ok_steps_from (k := 1) F_steps_from (.cons (PySem.W.mg_none_of X G z_len) (.cons (PySem.W.mg_none_of X G z_range) (.cons ((fn_at O_raw_rest (PySem.W.mg_of X G a_raw_rest) k_raw_rest B_raw_rest).mono (by decide)) (GAll.nil))))
  have O_raw_parts : FnG l.prog w K mg base (L2.CX l.prog w) 3 _ _ _ (spD K mg 1 Row.r_raw_parts) := ok_raw_parts (k := 2) F_raw_parts (.cons ((fn_at O_rows_by_rests (PySem.W.mg_of X G a_rows_by_rests) k_rows_by_rests B_rows_by_rests).mono (by decide)) (.cons ((fn_at O_steps_from (PySem.W.mg_of X G a_steps_from) k_steps_from B_steps_from).mono (by decide)) (.cons (PySem.W.mg_none_of X G z_tuple) (.cons (PySem.W.mg_none_of X G z_sorted) (GAll.nil)))))
  have O_parts : FnG l.prog w K mg base (L2.CX l.prog w) 7 _ _ _ (spD K mg 1 r_parts) := ok_parts (k := 6) F_parts (.cons ((fn_at O_check_lot (PySem.W.mg_of X G a_check_lot) k_check_lot B_check_lot).mono (by decide)) (.cons ((fn_at O_raw_parts (PySem.W.mg_of X G a_raw_parts) k_raw_parts B_raw_parts).mono (by decide)) (GAll.nil)))
  have O__law_is : FnG l.prog w K mg base (L2.CX l.prog w) 9 _ _ _ (spD K mg 2 (r__law_is 8)) := ok__law_is (k := 0) F__law_is B__law_is (PySem.W.mg_of X G a__law_is) k__law_is (.cons (PySem.W.mg_none_of X G z_isinstance) (.cons (PySem.W.mg_none_of X G z_tuple) (.cons (PySem.W.mg_none_of X G z_list) (.cons (PySem.W.mg_none_of X G z_len) (.cons (PySem.W.mg_none_of X G z_all) (.cons (PySem.W.mg_none_of X G z_range) (.cons (PySem.W.mg_none_of X G z_bool) (GAll.nil)))))))) 8
  have O__law_near : FnG l.prog w K mg base (L2.CX l.prog w) 1 _ _ _ (spD K mg 2 Row.r__law_near) := ok__law_near (k := 0) F__law_near (.cons (PySem.W.mg_none_of X G z_len) (.cons (PySem.W.mg_none_of X G z_range) (GAll.nil)))
  have O__law_parts : FnG l.prog w K mg base (L2.CX l.prog w) 2 _ _ _ (spD K mg 1 Row.r__law_parts) := ok__law_parts (k := 1) F__law_parts (.cons (PySem.W.mg_none_of X G z_list) (.cons (PySem.W.mg_none_of X G z_len) (.cons ((fn_at O__law_near (PySem.W.mg_of X G a__law_near) k__law_near B__law_near).mono (by decide)) (.cons (PySem.W.mg_none_of X G z_tuple) (.cons (PySem.W.mg_none_of X G z_sorted) (GAll.nil))))))
  have O__law_mixed : FnG l.prog w K mg base (L2.CX l.prog w) 2 _ _ _ (spD K mg 2 r__law_mixed) := ok__law_mixed (k := 1) F__law_mixed (.cons (PySem.W.mg_none_of X G z_list) (.cons (PySem.W.mg_none_of X G z_range) (.cons (PySem.W.mg_none_of X G z_len) (.cons ((fn_at O__law_draw (PySem.W.mg_of X G a__law_draw) k__law_draw B__law_draw).mono (by decide)) (GAll.nil)))))
  have O__law_led : FnG l.prog w K mg base (L2.CX l.prog w) 1 _ _ _ (spD K mg 3 r__law_led) := ok__law_led (k := 0) F__law_led (.cons (PySem.W.mg_none_of X G z_tuple) (GAll.nil))
  have O_law : FnG l.prog w K mg base (L2.CX l.prog w) 10 _ _ _ (spD K mg 1 r_law) := ok_law (k := 9) F_law (.cons ((fn_at O__law_pot (PySem.W.mg_of X G a__law_pot) k__law_pot B__law_pot).mono (by decide)) (.cons (PySem.W.mg_none_of X G z_range) (.cons ((fn_at O__law_draw (PySem.W.mg_of X G a__law_draw) k__law_draw B__law_draw).mono (by decide)) (.cons ((fn_at O__law_lot (PySem.W.mg_of X G a__law_lot) k__law_lot B__law_lot).mono (by decide)) (.cons ((fn_at O__law_any (PySem.W.mg_of X G a__law_any) k__law_any B__law_any).mono (by decide)) (.cons ((fn_at O_parts (PySem.W.mg_of X G a_parts) k_parts B_parts).mono (by decide)) (.cons (PySem.W.mg_none_of X G z_list) (.cons ((fn_at O__law_is (PySem.W.mg_of X G a__law_is) k__law_is B__law_is).mono (by decide)) (.cons ((fn_at O__law_parts (PySem.W.mg_of X G a__law_parts) k__law_parts B__law_parts).mono (by decide)) (.cons (PySem.W.mg_none_of X G z_sorted) (.cons (PySem.W.mg_none_of X G z_all) (.cons ((fn_at O__law_mixed (PySem.W.mg_of X G a__law_mixed) k__law_mixed B__law_mixed).mono (by decide)) (.cons (PySem.W.mg_none_of X G z_tuple) (.cons ((fn_at O__law_led (PySem.W.mg_of X G a__law_led) k__law_led B__law_led).mono (by decide)) (GAll.nil)))))))))))))))
  exact O_law
end DL.K05
open PySem PySem.W PyProof.Rows in
set_option maxRecDepth 100000 in
set_option maxHeartbeats 0 in
theorem PySem.Challenge.cw_onesilent_k05_whole_parts_of_lots_holds : PySem.Challenge.rw_onesilent_k05_whole_parts_of_lots.Holds := by
  w_on; o_law; k_head; (case hw => w_witness2)
  k_fill
  refine DL.walk (l := PySem.Challenge.rw_onesilent_k05_whole_parts_of_lots) (k := 10) (x := "_law_script") rfl rfl ⟨rfl, by decide, by decide⟩ (fun w h Y => PySem.W.kIn_of Y) (DL.law_of DL.K05.law_true) ?F
  case F =>
    intro w mg fa h KX G hmg
    refine' DL.K05.all_mk KX G hmg ?a__law_pot ?l__law_pot ?c__law_pot_ ?k__law_pot ?a__law_draw ?l__law_draw ?c__law_draw_ ?k__law_draw ?a__law_any ?l__law_any ?c__law_any_ ?k__law_any ?a__law_lot ?l__law_lot ?c__law_lot_ ?k__law_lot ?a_is_integer ?l_is_integer ?c_is_integer_ ?k_is_integer ?a_is_within ?l_is_within ?c_is_within_ ?k_is_within ?a_is_many ?l_is_many ?c_is_many_ ?k_is_many ?a_is_sized ?l_is_sized ?c_is_sized_ ?k_is_sized ?a_is_row_of ?l_is_row_of ?c_is_row_of_ ?k_is_row_of ?a_is_row ?l_is_row ?c_is_row_ ?k_is_row ?a_are_rising ?l_are_rising ?c_are_rising_ ?k_are_rising ?a_is_lot ?l_is_lot ?c_is_lot_ ?k_is_lot ?a_check_lot ?l_check_lot ?c_check_lot_ ?k_check_lot ?a_raw_rest ?l_raw_rest ?c_raw_rest_ ?k_raw_rest ?a_rows_by_rests ?l_rows_by_rests ?c_rows_by_rests_ ?k_rows_by_rests ?a_steps_from ?l_steps_from ?c_steps_from_ ?k_steps_from ?a_raw_parts ?l_raw_parts ?c_raw_parts_ ?k_raw_parts ?a_parts ?l_parts ?c_parts_ ?k_parts ?a__law_is ?l__law_is ?c__law_is_ ?k__law_is ?a__law_near ?l__law_near ?c__law_near_ ?k__law_near ?a__law_parts ?l__law_parts ?c__law_parts_ ?k__law_parts ?a__law_mixed ?l__law_mixed ?c__law_mixed_ ?k__law_mixed ?a__law_led ?l__law_led ?c__law_led_ ?k__law_led ?a_law ?l_law ?c_law_ ?k_law ?a_LEAST_MANY ?a_MOST_MANY ?e_NoLot ?z_abs ?z_all ?z_bool ?z_int ?z_isinstance ?z_len ?z_list ?z_range ?z_set ?z_sorted ?z_tuple ?z_zip
    (case a__law_pot => k_is)
    (case l__law_pot => k_is)
    (case c__law_pot_ => k_is)
    (case k__law_pot => k_is)
    (case a__law_draw => k_is)
    (case l__law_draw => k_is)
    (case c__law_draw_ => k_is)
    (case k__law_draw => k_is)
    (case a__law_any => k_is)
    (case l__law_any => k_is)
    (case c__law_any_ => k_is)
    (case k__law_any => k_is)
    (case a__law_lot => k_is)
    (case l__law_lot => k_is)
    (case c__law_lot_ => k_is)
    (case k__law_lot => k_is)
    (case a_is_integer => k_is)
    (case l_is_integer => k_is)
    (case c_is_integer_ => k_is)
    (case k_is_integer => k_is)
    (case a_is_within => k_is)
    (case l_is_within => k_is)
    (case c_is_within_ => k_is)
    (case k_is_within => k_is)
    (case a_is_many => k_is)
    (case l_is_many => k_is)
    (case c_is_many_ => k_is)
    (case k_is_many => k_is)
    (case a_is_sized => k_is)
    (case l_is_sized => k_is)
    (case c_is_sized_ => k_is)
    (case k_is_sized => k_is)
    (case a_is_row_of => k_is)
    (case l_is_row_of => k_is)
    (case c_is_row_of_ => k_is)
    (case k_is_row_of => k_is)
    (case a_is_row => k_is)
    (case l_is_row => k_is)
    (case c_is_row_ => k_is)
    (case k_is_row => k_is)
    (case a_are_rising => k_is)
    (case l_are_rising => k_is)
    (case c_are_rising_ => k_is)
    (case k_are_rising => k_is)
    (case a_is_lot => k_is)
    (case l_is_lot => k_is)
    (case c_is_lot_ => k_is)
    (case k_is_lot => k_is)
    (case a_check_lot => k_is)
    (case l_check_lot => k_is)
    (case c_check_lot_ => k_is)
    (case k_check_lot => k_is)
    (case a_raw_rest => k_is)
    (case l_raw_rest => k_is)
    (case c_raw_rest_ => k_is)
    (case k_raw_rest => k_is)
    (case a_rows_by_rests => k_is)
    (case l_rows_by_rests => k_is)
    (case c_rows_by_rests_ => k_is)
    (case k_rows_by_rests => k_is)
    (case a_steps_from => k_is)
    (case l_steps_from => k_is)
    (case c_steps_from_ => k_is)
    (case k_steps_from => k_is)
    (case a_raw_parts => k_is)
    (case l_raw_parts => k_is)
    (case c_raw_parts_ => k_is)
    (case k_raw_parts => k_is)
    (case a_parts => k_is)
    (case l_parts => k_is)
    (case c_parts_ => k_is)
    (case k_parts => k_is)
    (case a__law_is => k_is)
    (case l__law_is => k_is)
    (case c__law_is_ => k_is)
    (case k__law_is => k_is)
    (case a__law_near => k_is)
    (case l__law_near => k_is)
    (case c__law_near_ => k_is)
    (case k__law_near => k_is)
    (case a__law_parts => k_is)
    (case l__law_parts => k_is)
    (case c__law_parts_ => k_is)
    (case k__law_parts => k_is)
    (case a__law_mixed => k_is)
    (case l__law_mixed => k_is)
    (case c__law_mixed_ => k_is)
    (case k__law_mixed => k_is)
    (case a__law_led => k_is)
    (case l__law_led => k_is)
    (case c__law_led_ => k_is)
    (case k__law_led => k_is)
    (case a_law => k_is)
    (case l_law => k_is)
    (case c_law_ => k_is)
    (case k_law => k_is)
    (case a_LEAST_MANY => k_is)
    (case a_MOST_MANY => k_is)
    (case e_NoLot => (refine' DL.errI_mk0 (st := (L2.inClass (DL.K05.top 12) 0)) (DL.errG_mk ?a ?s ?l ?e1 ?e2 ?f1 ?f2 ?f3 ?f4 ?g1 ?g2 ?g3 ?ne ?nx ?h1 ?h2 ?h3 ?i1 ?i2 ?i3 ?i4) ?iC ?tI ?lk ?hcd ?lcc ?lcd ?hvs ?hfile ?hsub ?hsup ?hVE ?hsn ?hop ?hb ?hline ?hbi ?hp ?har ?s1 ?s2 ?s3 ?s5 ?s6 ?s7 ?s8 ?s9; (case a => k_is); (case s => k_is); (case l => k_is); (case e1 => exact rfl); (case e2 => exact rfl); (case f1 => k_is); (case f2 => k_is); (case f3 => k_is); (case f4 => k_is); (case g1 => k_is); (case g2 => k_is); (case g3 => k_is); (case ne => decide +kernel); (case nx => decide +kernel); (case h1 => k_is); (case h2 => k_is); (case h3 => k_is); (case i1 => k_is); (case i2 => k_is); (case i3 => k_is); (case i4 => k_is); (case iC => k_is); (case tI => k_is); (case lk => k_is); (case hcd => k_is); (case lcc => k_is); (case lcd => k_is); (case hvs => exact rfl); (case hfile => exact rfl); (case hsub => k_is); (case hsup => exact rfl); (case hVE => k_is); (case hsn => k_is); (case hop => k_is); (case hb => exact rfl); (case hline => exact rfl); (case hbi => exact fun s u v => .of_eq rfl); (case hp => exact rfl); (case har => exact rfl); (case s1 => exact rfl); (case s2 => exact rfl); (case s3 => exact rfl); (case s5 => decide +kernel); (case s6 => exact rfl); (case s7 => exact rfl); (case s8 => exact rfl); (case s9 => exact rfl)))
    (case z_abs => k_is)
    (case z_all => k_is)
    (case z_bool => k_is)
    (case z_int => k_is)
    (case z_isinstance => k_is)
    (case z_len => k_is)
    (case z_list => k_is)
    (case z_range => k_is)
    (case z_set => k_is)
    (case z_sorted => k_is)
    (case z_tuple => k_is)
    (case z_zip => k_is)
