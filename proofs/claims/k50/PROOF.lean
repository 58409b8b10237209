import PyProof.Rows.All
import Wide.All
import OpenK.AllK
import Wide.FinOn
import HandS.ForMost
import HandS.ForExc
import HandS.Walk
import HandS.Style
import HandS.CallSlots
import HandS.TryMany
import HandS.ExcIs
import HandS.ExcField
import HandS.Wide
import KE.SortData
import HandS.TupMul
import HandS.TupAny
import PyProof.EqAt
import PyProof.EqKinds
import HandS.Deep
import HandS.IsInst
import KE.DataCmp
import PyProof.Rows.InDataRows
import HandS.Text
import HandS.RaiseMore
import KE.DatumIndex
import HandS.Flow
import HandS.WordsExc
import HandS.Zip
import KE.GoesEnum
import HandS.RevTup
import PyProof.ReprRoads
import HandS.SetFor
import HandS.Strs
import KE.KExcSuper
import KE.KSuper
import HandS.ExcInit
import PySem.Challenge.RW_onesilent_k50_sparing_patterns_judged
set_option Elab.async false
set_option linter.all false
set_option maxRecDepth 100000
set_option maxHeartbeats 4000000
namespace DL
open PySem PySem.Spec PyProof.Rows L2

/-! ## values, objects, heaps of the little machine -/
/-- what an error keeps -/
inductive Lf where
  | non | bl (b : Bool) | int (i : Int) | str (x : Str)
def Lf.v : Lf → V
  | .non => .non
  | .bl b => .bl b
  | .int i => .int i
  | .str x => .str x
/-- an error that is handled: where it lies, its class, its dict -/
structure Tk where
  a : Addr
  cls : Value
  d : Option Addr
inductive D where
  | exv (t : Tk) (c : Str) (arg : List (Str × Lf))
  | non | bl (b : Bool) | int (i : Int) | str (x : Str) | tup (xs : List D) | frl (xs : List D) | loc (n : Nat) | glo (x : Str) | ty (n : String)

inductive O where
  | lst (xs : List D) | dct (kvs : List (D × D)) | ins (c : Str) (fs : List (Str × D)) | set (xs : List D)
abbrev Hs := List O
/-- an error: its class's name, its field -/
structure Ex where
  cls : Str
  arg : List (Str × Lf)
/-- what may be stuck, but raises nothing -/
abbrev P (α : Type) := Hs → Option (α × Hs)
/-- what may be stuck, or raise -/
abbrev M (α : Type) := Hs → Option (Except Ex α × Hs)
def P.pure {α : Type} (a : α) : P α := fun hs => some (a, hs)
def P.bind {α β : Type} (x : P α) (f : α → P β) : P β := fun hs => match x hs with
  | some (a, h1) => f a h1
  | none => none
def M.pure {α : Type} (a : α) : M α := fun hs => some (.ok a, hs)
def M.stuck {α : Type} : M α := fun _ => none
def M.bind {α β : Type} (x : M α) (f : α → M β) : M β := fun hs => match x hs with
  | some (.ok a, h1) => f a h1
  | some (.error e, h1) => some (.error e, h1)
  | none => none
def M.lift {α : Type} (x : P α) : M α := fun hs => match x hs with
  | some (a, h1) => some (.ok a, h1)
  | none => none

/-! ## how they stand in the heap of the layer -/
/-- a list that nobody writes -/
def SqF (K : PySem.W.Frag) (H : Hp) (a : Addr) (xs : List V) : Prop :=
  (∃ o, H a = some (.frz o (.lst xs))) ∨
    ∃ (o : Obj) (its : Array Value) (n : Nat), K.lookup a = some o ∧ o.cls = .type "list" ∧ o.dict = none ∧ o.data = .seq its n ∧ its.size ≤ sizeLine ∧ Vals xs its.toList
theorem SqF.sql {K : PySem.W.Frag} {H : Hp} {a : Addr} {xs : List V} (h : SqF K H a xs) : SqL K H a xs := by
  rcases h with ⟨o, h⟩ | h
  · exact .inl (.inr ⟨o, h⟩)
  · exact .inr h
def Lf.d : Lf → D
  | .non => .non
  | .bl b => .bl b
  | .int i => .int i
  | .str x => .str x
/-- an error class of the package, straight over the package's own one -/
def ErrM (K : PySem.W.Frag) (mg : Str → Option Value) (x : Str) (C : Addr) : Prop := ∃ (S : Addr) (cd : ClassData), PySem.W.clsIn K C = some cd ∧ cd.name = x ∧ cd.mro = [.ref C, .ref S, .type "ValueError", .type "Exception", .type "BaseException", .type "object"] ∧ mg "SilentError" = some (.ref S) ∧ (PySem.W.clsIn K S).isSome = true ∧
  PySem.W.subIn K (.ref S) (.type "BaseException") = some true ∧ PySem.W.typeIn K (.ref S) = some (.type "type") ∧ PySem.W.typeIn K (.ref C) = some (.type "type") ∧ S ≠ C ∧ x ≠ "SilentError" ∧ L2.XfC K C ∧ L2.ExcC K C
/-- how an error lies in the layer -/
def RX (K : PySem.W.Frag) (mg : Str → Option Value) (H : Hp) (x : Ex) (cls : Value) (d : Option Addr) : Prop :=
  ∃ C, mg x.cls = some (.ref C) ∧ cls = .ref C ∧ ErrM K mg x.cls C ∧ (∀ p ∈ x.arg, PySem.W.findIn K (.ref C) p.1 = some none) ∧ ((x.arg = [] ∧ d = none) ∨ ∃ dd, d = some dd ∧ H dd = some (.xd (x.arg.map fun p => (p.1, p.2.v))))
section
variable (K : PySem.W.Frag) (mg : Str → Option Value)
mutual
def RV (m : List Addr) (H : Hp) : D → V → Prop
  | .non, v => v = .non
  | .bl b, v => v = .bl b
  | .int i, v => v = .int i
  | .str x, v => v = .str x
  | .tup xs, v => ∃ a vs, v = .ref a ∧ SqT K H a vs ∧ RVs m H xs vs
  | .frl xs, v => ∃ a vs, v = .ref a ∧ SqF K H a vs ∧ RVs m H xs vs
  | .loc n, v => ∃ a, v = .ref a ∧ m[n]? = some a
  | .glo x, v => ∃ a, v = .ref a ∧ mg x = some (.ref a)
  | .ty n, v => v = .ty n
  | .exv t c as, v => v = .ref t.a ∧ RX K mg H ⟨c, as⟩ t.cls t.d
def RVs (m : List Addr) (H : Hp) : List D → List V → Prop
  | [], vs => vs = []
  | d :: ds, vs => ∃ v r, vs = v :: r ∧ RV m H d v ∧ RVs m H ds r
end
def RFs (m : List Addr) (H : Hp) : List (Str × D) → List (Str × V) → Prop
  | [], vs => vs = []
  | (x, d) :: ds, vs => ∃ v r, vs = (x, v) :: r ∧ RV K mg m H d v ∧ RFs m H ds r
/-- a dict's key -/
def _root_.DL.kD : Key → D
  | .inl i => .int i
  | .inr x => .str x
def RKs (m : List Addr) (H : Hp) : List (D × D) → List (Key × V) → Prop
  | [], vs => vs = []
  | (k, d) :: ds, vs => ∃ κ v r, vs = (κ, v) :: r ∧ k = kD κ ∧ RV K mg m H d v ∧ RKs m H ds r
def RO (m : List Addr) (H : Hp) : O → Addr → Prop
  | .lst xs, a => ∃ vs, H a = some (.lst vs) ∧ RVs K mg m H xs vs
  | .dct kvs, a => ∃ ks, H a = some (.dK ks) ∧ RKs K mg m H kvs ks
  | .ins c fs, a => ∃ C dx vs, mg c = some (.ref C) ∧ H a = some (.ins C dx vs) ∧ RFs K mg m H fs vs
  | .set _, _ => False
structure HR (m : List Addr) (hs : Hs) (H : Hp) : Prop where
  len : m.length = hs.length
  nd : m.Nodup
  ob : ∀ (n : Nat) (o : O) (a : Addr), hs[n]? = some o → m[n]? = some a → RO K mg m H o a
structure Ext (m : List Addr) (H : Hp) (m' : List Addr) (H' : Hp) : Prop where
  pre : ∃ t, m' = m ++ t
  keep : ∀ b o, H b = some o → b ∉ m → H' b = some o
  new : ∀ b ∈ m', b ∈ m ∨ H b = none
  tup : ∀ a xs, SqT K H a xs → SqT K H' a xs
  frz : ∀ a o u, H a = some (.frz o u) → H' a = some (.frz o u)
  xd : ∀ a fs, H a = some (.xd fs) → H' a = some (.xd fs)
/-- what values lean on -/
structure Wk (m : List Addr) (H : Hp) (m' : List Addr) (H' : Hp) : Prop where
  pre : ∃ t, m' = m ++ t
  tup : ∀ a xs, SqT K H a xs → SqT K H' a xs
  frz : ∀ a o u, H a = some (.frz o u) → H' a = some (.frz o u)
  xd : ∀ a fs, H a = some (.xd fs) → H' a = some (.xd fs)
structure RS (m : List Addr) (H : Hp) (ev : List (Option D)) (σ : L2.St) : Prop where
  len : ev.length = σ.length
  at_ : ∀ (i : Nat) (d : D), ev[i]? = some (some d) → ∃ v, σ[i]? = some (some v) ∧ RV K mg m H d v
end
section
variable {K : PySem.W.Frag} {mg : Str → Option Value} {m m' m1 m2 : List Addr} {H H' H1 H2 : Hp}
theorem Ext.refl : Ext K m H m H := ⟨⟨[], by simp⟩, fun _ _ h _ => h, fun _ h => .inl h, fun _ _ h => h, fun _ _ _ h => h, fun _ _ h => h⟩
theorem Ext.trans (a : Ext K m H m1 H1) (b : Ext K m1 H1 m2 H2) : Ext K m H m2 H2 := by
  obtain ⟨t, rfl⟩ := a.pre
  obtain ⟨u, rfl⟩ := b.pre
  refine ⟨⟨t ++ u, by simp⟩, fun c o h hn => ?_, fun c hc => ?_, fun c xs h => b.tup c xs (a.tup c xs h), fun c o u h => b.frz c o u (a.frz c o u h), fun c u h => b.xd c u (a.xd c u h)⟩
  · refine b.keep c o (a.keep c o h hn) fun hc => ?_
    rcases a.new c hc with q | q
    · exact hn q
    · rw [h] at q; cases q
  · rcases b.new c hc with q | q
    · exact a.new c q
    · by_cases hm : c ∈ m
      · exact .inl hm
      · refine .inr ?_
        cases e : H c with
        | none => rfl
        | some o => rw [a.keep c o e hm] at q; cases q
theorem Ext.wk (e : Ext K m H m' H') : Wk K m H m' H' := ⟨e.pre, e.tup, e.frz, e.xd⟩
theorem Wk.loc (e : Wk K m H m' H') {n : Nat} {a : Addr} (h : m[n]? = some a) : m'[n]? = some a := by
  obtain ⟨t, rfl⟩ := e.pre
  rw [List.getElem?_append_left (List.getElem?_eq_some_iff.mp h).1]
  exact h
theorem RX.monoW (e : Wk K m H m' H') {x : Ex} {cls : Value} {d : Option Addr} (h : RX K mg H x cls d) : RX K mg H' x cls d := by
  obtain ⟨C, h1, h2, h3, h3', h4⟩ := h
  refine ⟨C, h1, h2, h3, h3', ?_⟩
  rcases h4 with h4 | ⟨dd, h4, h5⟩
  · exact .inl h4
  · exact .inr ⟨dd, h4, e.xd _ _ h5⟩
theorem RX.mono (e : Ext K m H m' H') {x : Ex} {cls : Value} {d : Option Addr} (h : RX K mg H x cls d) : RX K mg H' x cls d := h.monoW e.wk
mutual
theorem RV.monoW (e : Wk K m H m' H') : ∀ {d : D} {v : V}, RV K mg m H d v → RV K mg m' H' d v
  | .exv t c as, _, h => by
    simp only [RV] at h ⊢
    exact ⟨h.1, h.2.monoW e⟩
  | .non, _, h => by simpa [RV] using h
  | .bl _, _, h => by simpa [RV] using h
  | .int _, _, h => by simpa [RV] using h
  | .str _, _, h => by simpa [RV] using h
  | .ty _, _, h => by simpa [RV] using h
  | .glo _, _, h => by simpa [RV] using h
  | .loc n, _, h => by
    simp only [RV] at h ⊢
    obtain ⟨a, e1, h⟩ := h
    exact ⟨a, e1, e.loc h⟩
  | .frl xs, _, h => by
    simp only [RV] at h ⊢
    obtain ⟨a, vs, e1, h1, h2⟩ := h
    refine ⟨a, vs, e1, ?_, RVs.monoW e h2⟩
    rcases h1 with ⟨o, h1⟩ | h1
    · exact .inl ⟨o, e.frz _ _ _ h1⟩
    · exact .inr h1
  | .tup xs, _, h => by
    simp only [RV] at h ⊢
    obtain ⟨a, vs, e1, h1, h2⟩ := h
    exact ⟨a, vs, e1, e.tup _ _ h1, RVs.monoW e h2⟩
theorem RVs.monoW (e : Wk K m H m' H') : ∀ {ds : List D} {vs : List V}, RVs K mg m H ds vs → RVs K mg m' H' ds vs
  | [], _, h => by simpa [RVs] using h
  | d :: ds, _, h => by
    simp only [RVs] at h ⊢
    obtain ⟨v, r, e1, h1, h2⟩ := h
    exact ⟨v, r, e1, RV.monoW e h1, RVs.monoW e h2⟩
end
theorem RS.monoW (e : Wk K m H m' H') {ev : List (Option D)} {σ : L2.St} (h : RS K mg m H ev σ) : RS K mg m' H' ev σ :=
  ⟨h.len, fun i d q => let ⟨v, h1, h2⟩ := h.at_ i d q; ⟨v, h1, h2.monoW e⟩⟩
theorem RFs.monoW (e : Wk K m H m' H') : ∀ {ds : List (Str × D)} {vs : List (Str × V)}, RFs K mg m H ds vs → RFs K mg m' H' ds vs
  | [], _, h => by simpa [RFs] using h
  | (x, d) :: ds, _, h => by
    simp only [RFs] at h ⊢
    obtain ⟨v, r, e1, h1, h2⟩ := h
    exact ⟨v, r, e1, h1.monoW e, RFs.monoW e h2⟩
theorem RKs.monoW (e : Wk K m H m' H') : ∀ {ds : List (D × D)} {vs : List (Key × V)}, RKs K mg m H ds vs → RKs K mg m' H' ds vs
  | [], _, h => by simpa [RKs] using h
  | (k, d) :: ds, _, h => by
    simp only [RKs] at h ⊢
    obtain ⟨κ, v, r, e1, e2, h1, h2⟩ := h
    exact ⟨κ, v, r, e1, e2, h1.monoW e, RKs.monoW e h2⟩
theorem RV.mono (e : Ext K m H m' H') {d : D} {v : V} (h : RV K mg m H d v) : RV K mg m' H' d v := h.monoW e.wk
theorem RVs.mono (e : Ext K m H m' H') {ds : List D} {vs : List V} (h : RVs K mg m H ds vs) : RVs K mg m' H' ds vs := RVs.monoW e.wk h
theorem RS.mono (e : Ext K m H m' H') {ev : List (Option D)} {σ : L2.St} (h : RS K mg m H ev σ) : RS K mg m' H' ev σ := h.monoW e.wk
theorem RFs.mono (e : Ext K m H m' H') {ds : List (Str × D)} {vs : List (Str × V)} (h : RFs K mg m H ds vs) : RFs K mg m' H' ds vs := RFs.monoW e.wk h
theorem RVs.length : ∀ {ds : List D} {vs : List V}, RVs K mg m H ds vs → ds.length = vs.length
  | [], _, h => by simp only [RVs] at h; subst h; rfl
  | d :: ds, _, h => by
    simp only [RVs] at h
    obtain ⟨v, r, rfl, h1, h2⟩ := h
    simp [RVs.length h2]
theorem RVs.nil_iff {vs : List V} : RVs K mg m H [] vs ↔ vs = [] := by simp only [RVs]
theorem RVs.cons_iff {d : D} {ds : List D} {vs : List V} : RVs K mg m H (d :: ds) vs ↔ ∃ v r, vs = v :: r ∧ RV K mg m H d v ∧ RVs K mg m H ds r := by simp only [RVs]
theorem RVs.cons {d : D} {ds : List D} {v : V} {vs : List V} (h1 : RV K mg m H d v) (h2 : RVs K mg m H ds vs) : RVs K mg m H (d :: ds) (v :: vs) := RVs.cons_iff.mpr ⟨v, vs, rfl, h1, h2⟩
theorem RVs.append : ∀ {xs ys : List D} {us ws : List V}, RVs K mg m H xs us → RVs K mg m H ys ws → RVs K mg m H (xs ++ ys) (us ++ ws)
  | [], _, _, _, h1, h2 => by rw [RVs.nil_iff] at h1; subst h1; exact h2
  | x :: xs, _, _, _, h1, h2 => by
    obtain ⟨v, r, rfl, q1, q2⟩ := RVs.cons_iff.mp h1
    exact RVs.cons q1 (RVs.append q2 h2)
theorem RVs.get : ∀ {xs : List D} {us : List V} {i : Nat} {d : D}, RVs K mg m H xs us → xs[i]? = some d → ∃ v, us[i]? = some v ∧ RV K mg m H d v
  | [], _, _, _, _, h => by simp at h
  | x :: xs, _, 0, d, h, e => by
    obtain ⟨v, r, rfl, q1, q2⟩ := RVs.cons_iff.mp h
    simp at e; subst e
    exact ⟨v, rfl, q1⟩
  | x :: xs, _, i + 1, d, h, e => by
    obtain ⟨v, r, rfl, q1, q2⟩ := RVs.cons_iff.mp h
    exact RVs.get (i := i) q2 (by simpa using e)
theorem RVs.get' : ∀ {xs : List D} {us : List V} {i : Nat} {v : V}, RVs K mg m H xs us → us[i]? = some v → ∃ d, xs[i]? = some d ∧ RV K mg m H d v
  | [], _, _, _, h, e => by rw [RVs.nil_iff] at h; subst h; simp at e
  | x :: xs, _, 0, d, h, e => by
    obtain ⟨v, r, rfl, q1, q2⟩ := RVs.cons_iff.mp h
    simp at e; subst e
    exact ⟨x, rfl, q1⟩
  | x :: xs, _, i + 1, d, h, e => by
    obtain ⟨v, r, rfl, q1, q2⟩ := RVs.cons_iff.mp h
    exact RVs.get' (i := i) q2 (by simpa using e)
theorem RVs.set : ∀ {xs : List D} {us : List V} {d : D} {v : V} (i : Nat), RVs K mg m H xs us → RV K mg m H d v → RVs K mg m H (xs.set i d) (us.set i v)
  | [], _, _, _, _, h, _ => by rw [RVs.nil_iff] at h; subst h; exact RVs.nil_iff.mpr rfl
  | x :: xs, _, _, _, 0, h, q => by
    obtain ⟨v, r, rfl, q1, q2⟩ := RVs.cons_iff.mp h
    exact RVs.cons q q2
  | x :: xs, _, _, _, i + 1, h, q => by
    obtain ⟨v, r, rfl, q1, q2⟩ := RVs.cons_iff.mp h
    exact RVs.cons q1 (RVs.set i q2 q)
theorem RVs.take : ∀ {xs : List D} {us : List V} (n : Nat), RVs K mg m H xs us → RVs K mg m H (xs.take n) (us.take n)
  | _, _, 0, _ => RVs.nil_iff.mpr rfl
  | [], _, n + 1, h => by rw [RVs.nil_iff] at h; subst h; exact RVs.nil_iff.mpr rfl
  | x :: xs, _, n + 1, h => by
    obtain ⟨v, r, rfl, q1, q2⟩ := RVs.cons_iff.mp h
    exact RVs.cons q1 (RVs.take n q2)
theorem RVs.drop : ∀ {xs : List D} {us : List V} (n : Nat), RVs K mg m H xs us → RVs K mg m H (xs.drop n) (us.drop n)
  | _, _, 0, h => h
  | [], _, n + 1, h => by rw [RVs.nil_iff] at h; subst h; exact RVs.nil_iff.mpr rfl
  | x :: xs, _, n + 1, h => by
    obtain ⟨v, r, rfl, q1, q2⟩ := RVs.cons_iff.mp h
    exact RVs.drop n q2

/-! ### the heap's turns -/
theorem RO.there {o : O} {a : Addr} (h : RO K mg m H o a) : ∃ u, H a = some u := by
  cases o with
  | lst xs => obtain ⟨vs, h1, h2⟩ := h; exact ⟨_, h1⟩
  | dct _ => obtain ⟨ks, h1, _⟩ := h; exact ⟨_, h1⟩
  | ins c fs => obtain ⟨C, dx, vs, h0, h1, h2⟩ := h; exact ⟨_, h1⟩
  | set _ => exact h.elim
theorem RO.mono (e : Ext K m H m' H') {o : O} {a : Addr} (h : RO K mg m H o a) (ha : H' a = H a) : RO K mg m' H' o a := by
  cases o with
  | lst xs => obtain ⟨vs, h1, h2⟩ := h; exact ⟨vs, by rw [ha]; exact h1, h2.mono e⟩
  | dct _ => obtain ⟨ks, h1, h2⟩ := h; exact ⟨ks, by rw [ha]; exact h1, h2.monoW e.wk⟩
  | ins c fs => obtain ⟨C, dx, vs, h0, h1, h2⟩ := h; exact ⟨C, dx, vs, h0, by rw [ha]; exact h1, h2.mono e⟩
  | set _ => exact h.elim
theorem HR.at_ {hs : Hs} (h : HR K mg m hs H) {n : Nat} {o : O} (e : hs[n]? = some o) : ∃ a, m[n]? = some a ∧ RO K mg m H o a := by
  have h1 := (List.getElem?_eq_some_iff.mp e).1
  have h1' : n < m.length := by rw [h.len]; exact h1
  have h2 : m[n]? = some (m[n]'h1') := by simp [h1']
  exact ⟨_, h2, h.ob n o _ e h2⟩
theorem HR.at' {hs : Hs} (h : HR K mg m hs H) {n : Nat} {a : Addr} (e : m[n]? = some a) : ∃ o, hs[n]? = some o ∧ RO K mg m H o a := by
  have h1 := (List.getElem?_eq_some_iff.mp e).1
  have h1' : n < hs.length := by rw [← h.len]; exact h1
  have h2 : hs[n]? = some (hs[n]'h1') := by simp [h1']
  exact ⟨_, h2, h.ob n _ a h2 e⟩
theorem HR.mem {hs : Hs} (h : HR K mg m hs H) {a : Addr} (e : a ∈ m) : ∃ u, H a = some u := by
  obtain ⟨n, hn⟩ := List.mem_iff_getElem?.mp e
  obtain ⟨o, _, r⟩ := h.at' hn
  exact r.there
theorem HR.fresh {hs : Hs} (h : HR K mg m hs H) {p : Addr} (e : H p = none) : p ∉ m := fun q => by
  obtain ⟨_, z⟩ := h.mem q
  rw [e] at z
  cases z
/-- a new object that is none of ours -/
theorem Ext.upd_new {p : Addr} {o : HO} (e : H p = none) : Ext K m H m (upd H p o) := by
  refine ⟨⟨[], by simp⟩, fun b u h _ => by rw [upd_ne (ne_of_none h e)]; exact h, fun b h => .inl h, fun a xs h => ?_, fun a u v h => by rw [upd_ne (ne_of_none h e)]; exact h, fun a fs h => by rw [upd_ne (ne_of_none h e)]; exact h⟩
  rcases h with (h | ⟨u, h⟩) | h
  · exact .inl (.inl (by rw [upd_ne (ne_of_none h e)]; exact h))
  · exact .inl (.inr ⟨u, by rw [upd_ne (ne_of_none h e)]; exact h⟩)
  · exact .inr h
theorem HR.upd_new {hs : Hs} (h : HR K mg m hs H) {p : Addr} {o : HO} (e : H p = none) : HR K mg m hs (upd H p o) :=
  ⟨h.len, h.nd, fun n u a h1 h2 => (h.ob n u a h1 h2).mono (Ext.upd_new e) (upd_ne fun q => h.fresh e (q ▸ List.mem_of_getElem? h2))⟩
/-- a new list of ours -/
theorem Ext.push {p : Addr} {o : HO} (e : H p = none) : Ext K m H (m ++ [p]) (upd H p o) := by
  have x := Ext.upd_new (K := K) (m := m) (o := o) e
  refine ⟨⟨[p], rfl⟩, x.keep, fun b h => ?_, x.tup, x.frz, x.xd⟩
  rcases List.mem_append.mp h with h | h
  · exact .inl h
  · obtain rfl : b = p := by simpa using h
    exact .inr e
theorem HR.push {hs : Hs} (h : HR K mg m hs H) {p : Addr} {ho : HO} {o : O} (e : H p = none) (r : RO K mg (m ++ [p]) (upd H p ho) o p) : HR K mg (m ++ [p]) (hs ++ [o]) (upd H p ho) := by
  have hl := h.len
  refine ⟨by simp [hl], ?_, fun n u a h1 h2 => ?_⟩
  · refine List.nodup_append.mpr ⟨h.nd, by simp, fun a ha b hb q => ?_⟩
    obtain rfl : b = p := by simpa using hb
    subst q
    exact h.fresh e ha
  · by_cases hn : n < m.length
    · rw [List.getElem?_append_left hn] at h2
      rw [List.getElem?_append_left (by omega)] at h1
      exact (h.ob n u a h1 h2).mono (Ext.push e) (upd_ne fun q => h.fresh e (q ▸ List.mem_of_getElem? h2))
    · rw [List.getElem?_append_right (by omega)] at h1 h2
      have hz : n - m.length = 0 := by
        have := (List.getElem?_eq_some_iff.mp h2).1
        simpa using this
      rw [hz] at h2
      rw [← hl, hz] at h1
      simp at h1 h2
      subst h1 h2
      exact r
/-- an object of ours is written -/
theorem Ext.write {n : Nat} {a : Addr} {o u : HO} (hm : m[n]? = some a) (ha : H a = some o) (hn : (∀ xs, o ≠ .tup xs) ∧ (∀ v w, o ≠ .frz v w) ∧ ∀ fs, o ≠ .xd fs) : Ext K m H m (upd H a u) := by
  have mem := List.mem_of_getElem? hm
  refine ⟨⟨[], by simp⟩, fun b v h q => by rw [upd_ne fun z => q (by rw [z]; exact mem)]; exact h, fun b h => .inl h, fun b xs h => ?_, fun b v w h => ?_, fun b fs h => ?_⟩
  · rcases h with (h | ⟨v, h⟩) | h
    · exact .inl (.inl (by rw [upd_ne fun z => by subst z; rw [ha] at h; exact hn.1 _ (Option.some.inj h)]; exact h))
    · exact .inl (.inr ⟨v, by rw [upd_ne fun z => by subst z; rw [ha] at h; exact hn.2.1 _ _ (Option.some.inj h)]; exact h⟩)
    · exact .inr h
  · rw [upd_ne fun z => by subst z; rw [ha] at h; exact hn.2.1 _ _ (Option.some.inj h)]; exact h
  · rw [upd_ne fun z => by subst z; rw [ha] at h; exact hn.2.2 _ (Option.some.inj h)]; exact h
theorem HR.write {hs : Hs} (h : HR K mg m hs H) {n : Nat} {a : Addr} {o u : HO} {x : O} (hm : m[n]? = some a) (ha : H a = some o) (hn : (∀ xs, o ≠ .tup xs) ∧ (∀ v w, o ≠ .frz v w) ∧ ∀ fs, o ≠ .xd fs) (r : RO K mg m (upd H a u) x a) :
    HR K mg m (hs.set n x) (upd H a u) := by
  refine ⟨by simp [h.len], h.nd, fun k y b h1 h2 => ?_⟩
  by_cases hk : k = n
  · subst hk
    have hl : k < hs.length := by rw [← h.len]; exact (List.getElem?_eq_some_iff.mp hm).1
    rw [List.getElem?_set_self hl] at h1
    rw [hm] at h2
    cases h1; cases h2
    exact r
  · rw [List.getElem?_set_ne (Ne.symm hk)] at h1
    refine (h.ob k y b h1 h2).mono (Ext.write hm ha hn) (upd_ne fun q => hk ?_)
    subst q
    exact nd_ix h.nd h2 hm
theorem lst_plain {vs : List V} : (∀ xs, HO.lst vs ≠ .tup xs) ∧ (∀ v w, HO.lst vs ≠ .frz v w) ∧ ∀ fs, HO.lst vs ≠ .xd fs := ⟨(fun _ h => nomatch h), (fun _ _ h => nomatch h), (fun _ h => nomatch h)⟩
theorem ins_plain {C dx : Addr} {vs : List (Str × V)} : (∀ xs, HO.ins C dx vs ≠ .tup xs) ∧ (∀ v w, HO.ins C dx vs ≠ .frz v w) ∧ ∀ fs, HO.ins C dx vs ≠ .xd fs := ⟨(fun _ h => nomatch h), (fun _ _ h => nomatch h), (fun _ h => nomatch h)⟩
end
end DL
set_option Elab.async false
set_option linter.all false
set_option maxRecDepth 100000
set_option maxHeartbeats 4000000
namespace DL
open PySem PySem.Spec PyProof.Rows L2
open AutoSeq1 (wpAny_loadPart')

/-! ## a tuple once, or not at all -/
theorem tup_once (l : Addr) (its : Array Value) (n : Nat) (dd : Option Addr) (sl : Array (Option Value)) (x : Int) (u : Tok) (c0 : (decide (x < -(2 ^ 63)) || decide (x ≥ 2 ^ 63)) = false) (c1 : (its.isEmpty || x == 1) = true) :
    Meets (Builtin.«tuple.__mul__» ⟨[.ref l, .int x u], []⟩) (fun _ R s => s.heap.get? l = some { cls := .type "tuple", dict := dd, data := .seq its n, slots := sl } ∧ R (.ok (.ret (Value.ref l))) s) :=
  .of_wp fun prog w A R s ⟨held, h⟩ => by
    obtain ⟨hp, g, d, tk, os⟩ := s
    have idx := AutoSeq1.idx_int
    wp_walk using wpAny_loadPart' held
    repeat (first
      | (refine wpAny_ite_false (decide_eq_false (by rw [c0]; exact Bool.false_ne_true)) ?_; wp_walk using wpAny_loadPart' held)
      | (refine wpAny_ite_true (decide_eq_true c1) ?_; wp_walk using wpAny_loadPart' held))
    exact ⟨_, rfl, h⟩
theorem tup_never (l : Addr) (its : Array Value) (n : Nat) (dd : Option Addr) (sl : Array (Option Value)) (x : Int) (u : Tok) (c0 : (decide (x < -(2 ^ 63)) || decide (x ≥ 2 ^ 63)) = false) (c1 : (its.isEmpty || x == 1) = false) (c2 : (decide (x ≤ 0) || its.isEmpty) = true) :
    Meets (Builtin.«tuple.__mul__» ⟨[.ref l, .int x u], []⟩) (fun _ R s => s.heap.get? l = some { cls := .type "tuple", dict := dd, data := .seq its n, slots := sl } ∧
      R (.ok (.ret (Value.ref s.heap.objs.size))) { s with heap := s.heap.push { cls := Value.type "tuple", data := Data.seq #[] } }) :=
  .of_wp fun prog w A R s ⟨held, h⟩ => by
    obtain ⟨hp, g, d, tk, os⟩ := s
    have idx := AutoSeq1.idx_int
    wp_walk using wpAny_loadPart' held
    repeat (first
      | (refine wpAny_ite_false (decide_eq_false (by rw [c0]; exact Bool.false_ne_true)) ?_; wp_walk using wpAny_loadPart' held)
      | (refine wpAny_ite_false (decide_eq_false (by rw [c1]; exact Bool.false_ne_true)) ?_; wp_walk using wpAny_loadPart' held)
      | (refine wpAny_ite_true (decide_eq_true c2) ?_; wp_walk using wpAny_loadPart' held))
    exact ⟨_, rfl, h⟩
/-- a tuple so many times, none or one among them -/
def rRepF (K : PySem.W.Frag) : R2 := fun x y H Q => ∃ l k xs, x = .ref l ∧ y = .int k ∧ SqT K H l xs ∧ ((k = 1 ∨ (xs = [] ∧ 0 ≤ k ∧ k ≤ 1000)) ∧ Q (.ref l) H ∨ (k = 0 ∧ xs ≠ []) ∧ ∀ p, H p = none → Q (.ref p) (upd H p (.tup [])))
section
variable {X : Cx}
theorem op_repF : OpR X (binaryOp .Mult) (rRepF X.K) := by
  intro pins s σ H x y v u Q I rx ry h
  obtain ⟨l, k, xs, rfl, rfl, hT, q⟩ := h
  cases rx
  obtain ⟨t, rfl⟩ := ry
  obtain ⟨its, r, ⟨⟨cls, dd, data, sl⟩, ho, hc, n, hd⟩, hs⟩ := I.tuple hT
  simp only at hc hd
  subst hc hd
  have hle := r.length
  have bound : -(2 ^ 63) ≤ k ∧ k < 2 ^ 63 := by
    rcases q with ⟨h | h, _⟩ | ⟨⟨h, _⟩, _⟩ <;> omega
  have c0 : (decide (k < -(2 ^ 63)) || decide (k ≥ 2 ^ 63)) = false := by
    rw [decide_eq_false (by omega), decide_eq_false (by omega)] <;> rfl
  refine wpAny_binaryOp_repeat_ref (T := "tuple") (U := "int") (by decide) ⟨_, ho, rfl⟩ (fun s' => typeIs_int s' k t) noFill_tuple_mul F.fills_int_mul F.slot_int_rmul repeat_tuple F.slot_int_index.lookup
    (call_meets F.slot_int_rmul (typeIs_int s k t) F.entry_int_rmul (F.args_int_rmul_2 _ _) (int_rmul_tuple k t l its.toArray n dd sl) ⟨ho, rfl, ⟨_, ho, rfl⟩, ?_⟩)
  rcases q with ⟨h, q⟩ | ⟨⟨h, hne⟩, q⟩
  · have c1 : (its.toArray.isEmpty || k == 1) = true := by
      rcases h with rfl | ⟨h, _⟩
      · simp
      · subst h
        have : its = [] := List.length_eq_zero_iff.mp hle.symm
        subst this
        rfl
    exact call_meets F.slot_tuple_mul ⟨_, ho, rfl⟩ F.entry_tuple_mul (F.args_tuple_mul_2 _ _) (tup_once l its.toArray n dd sl k t c0 c1) ⟨ho, .ref l, H, I, rfl, q⟩
  · have ne : its ≠ [] := fun e => hne (List.length_eq_zero_iff.mp (by rw [hle, e]; rfl))
    have e0 : its.toArray.isEmpty = false := by cases its with
      | nil => exact absurd rfl ne
      | cons a b => rfl
    have c1 : (its.toArray.isEmpty || k == 1) = false := by rw [e0, h]; rfl
    have c2 : (decide (k ≤ 0) || its.toArray.isEmpty) = true := by rw [h]; rfl
    refine call_meets F.slot_tuple_mul ⟨_, ho, rfl⟩ F.entry_tuple_mul (F.args_tuple_mul_2 _ _) (tup_never l its.toArray n dd sl k t c0 c1 c2) ⟨ho, .ref s.heap.objs.size, _, I.laid (t' := s.toks) (o := .tup []) (fun b ob q => Heap.get?_push_of_some _ q) (Nat.le_refl _) ?_, rfl, q _ (I.hok.fresh (Nat.le_refl _))⟩
    exact ⟨Nat.zero_le _, [], .nil, IsTup.new _ _⟩
end
end DL
set_option Elab.async false
set_option linter.all false
set_option maxRecDepth 100000
set_option maxHeartbeats 4000000
namespace DL
open PySem PySem.Spec PyProof.Rows L2

def P.stuck {α : Type} : P α := fun _ => none
/-- a new list -/
def newL (xs : List D) : P D := fun hs => some (.loc hs.length, hs ++ [.lst xs])

/-! ## data -/
mutual
def D.py (f : Nat → Option PyData) : D → Option PyData
  | .non => some .none
  | .bl b => some (.bool b)
  | .int i => some (.int i)
  | .str x => some (.str x)
  | .tup xs => (D.pys f xs).map .tuple
  | .frl xs => (D.pys f xs).map .list
  | .loc n => f n
  | .glo _ => none
  | .exv .. => none
  | .ty _ => none
def D.pys (f : Nat → Option PyData) : List D → Option (List PyData)
  | [] => some []
  | d :: ds => match D.py f d, D.pys f ds with
    | some a, some b => some (a :: b)
    | _, _ => none
end
def derefs (hs : Hs) : Nat → Nat → Option PyData
  | 0, _ => none
  | k + 1, n => match hs[n]? with
    | some (.lst xs) => (D.pys (derefs hs k) xs).map .list
    | _ => none
def D.data (hs : Hs) (d : D) : Option PyData := d.py (derefs hs 40)
def eqDd (hs : Hs) (a b : D) : Option Bool := match a.data hs, b.data hs with
  | some p, some q => if (SeqAt.shaped p && SeqAt.shaped q) = true then some (PyData.eqv p q) else none
  | _, _ => none
def eqD (hs : Hs) (a b : D) : Option Bool := match a, b with
  | .str x, .str y => some (decide (x = y))
  | a, b => eqDd hs a b

section
variable {K : PySem.W.Frag} {mg : Str → Option Value} {m : List Addr} {H : Hp} {hs : Hs}
mutual
theorem py_ok {f : Nat → Option PyData} (hf : ∀ n p v, f n = some p → RV K mg m H (.loc n) v → Dp K H v p) : ∀ {d : D} {p : PyData} {v : V}, d.py f = some p → RV K mg m H d v → Dp K H v p
  | .non, _, _, h, r => by simp only [D.py] at h; cases h; simp only [RV] at r; subst r; exact .non
  | .bl b, _, _, h, r => by simp only [D.py] at h; cases h; simp only [RV] at r; subst r; exact .bl b
  | .int i, _, _, h, r => by simp only [D.py] at h; cases h; simp only [RV] at r; subst r; exact .int i
  | .str x, _, _, h, r => by simp only [D.py] at h; cases h; simp only [RV] at r; subst r; exact .str x
  | .loc n, p, v, h, r => by simp only [D.py] at h; exact hf n p v h r
  | .glo _, _, _, h, _ => by simp only [D.py] at h; cases h
  | .exv .., _, _, h, _ => by simp only [D.py] at h; cases h
  | .ty _, _, _, h, _ => by simp only [D.py] at h; cases h
  | .tup xs, _, _, h, r => by
    simp only [D.py] at h
    obtain ⟨q, e, rfl⟩ := Option.map_eq_some_iff.mp h
    simp only [RV] at r
    obtain ⟨a, vs, rfl, h1, h2⟩ := r
    exact .tup h1 (pys_ok hf e h2)
  | .frl xs, _, _, h, r => by
    simp only [D.py] at h
    obtain ⟨q, e, rfl⟩ := Option.map_eq_some_iff.mp h
    simp only [RV] at r
    obtain ⟨a, vs, rfl, h1, h2⟩ := r
    exact .lst h1.sql (pys_ok hf e h2)
theorem pys_ok {f : Nat → Option PyData} (hf : ∀ n p v, f n = some p → RV K mg m H (.loc n) v → Dp K H v p) : ∀ {ds : List D} {ps : List PyData} {vs : List V}, D.pys f ds = some ps → RVs K mg m H ds vs → DpAll K H vs ps
  | [], _, _, h, r => by simp only [D.pys] at h; cases h; rw [RVs.nil_iff] at r; subst r; exact .nil
  | d :: ds, _, _, h, r => by
    simp only [D.pys] at h
    obtain ⟨v, w, rfl, r1, r2⟩ := RVs.cons_iff.mp r
    cases e1 : D.py f d with
    | none => rw [e1] at h; cases h
    | some p =>
      cases e2 : D.pys f ds with
      | none => rw [e1, e2] at h; cases h
      | some q =>
        rw [e1, e2] at h
        cases h
        exact .cons (py_ok hf e1 r1) (pys_ok hf e2 r2)
end
theorem derefs_ok (hr : HR K mg m hs H) : ∀ (k n : Nat) (p : PyData) (v : V), derefs hs k n = some p → RV K mg m H (.loc n) v → Dp K H v p
  | 0, _, _, _, h, _ => by cases h
  | k + 1, n, p, v, h, r => by
    simp only [derefs] at h
    simp only [RV] at r
    obtain ⟨a, rfl, hm⟩ := r
    obtain ⟨o, ho, ro⟩ := hr.at' hm
    rw [ho] at h
    cases o with
    | lst xs =>
      obtain ⟨q, e, rfl⟩ := Option.map_eq_some_iff.mp h
      obtain ⟨vs, h1, h2⟩ := ro
      exact .lst (SqL.of h1) (pys_ok (derefs_ok hr k) e h2)
    | dct _ => cases h
    | ins _ _ => cases h
    | set _ => cases h
theorem data_ok (hr : HR K mg m hs H) {d : D} {p : PyData} {v : V} (h : d.data hs = some p) (r : RV K mg m H d v) : Dp K H v p := py_ok (derefs_ok hr 40) h r
end

/-! ## primitive operations by value -/
section
variable (K : PySem.W.Frag) (mg : Str → Option Value)
/-- what is wanted behind a result -/
abbrev Bk (m : List Addr) (H : Hp) (d : D) (hs' : Hs) (Q : VK) : Prop := ∀ m' H' v, Ext K m H m' H' → HR K mg m' hs' H' → RV K mg m' H' d v → Q v H'
def rP2 (f : D → D → P D) : R2 := fun x y H Q => ∃ m hs a b d hs', HR K mg m hs H ∧ RV K mg m H a x ∧ RV K mg m H b y ∧ f a b hs = some (d, hs') ∧ Bk K mg m H d hs' Q
def rPn (f : List D → P D) : List V → Hp → VK → Prop := fun vs H Q => ∃ m hs ds d hs', HR K mg m hs H ∧ RVs K mg m H ds vs ∧ f ds hs = some (d, hs') ∧ Bk K mg m H d hs' Q
def rP1 (f : D → P D) : V → Hp → VK → Prop := fun x H Q => ∃ m hs a d hs', HR K mg m hs H ∧ RV K mg m H a x ∧ f a hs = some (d, hs') ∧ Bk K mg m H d hs' Q
end
section
variable {K : PySem.W.Frag} {mg : Str → Option Value} {m : List Addr} {H : Hp} {hs hs' : Hs} {Q : VK} {d : D}
theorem Bk.here (k : Bk K mg m H d hs' Q) (hr : HR K mg m hs' H) {v : V} (r : RV K mg m H d v) : Q v H := k m H v .refl hr r
theorem Bk.tup {xs : List D} {vs : List V} (k : Bk K mg m H (.tup xs) hs' Q) (hr : HR K mg m hs' H) (r : RVs K mg m H xs vs) {p : Addr} (e : H p = none) : Q (.ref p) (upd H p (.tup vs)) :=
  k m _ _ (Ext.upd_new e) (hr.upd_new e) (by simp only [RV]; exact ⟨p, vs, rfl, SqT.of upd_same, r.mono (Ext.upd_new e)⟩)
theorem Bk.lst {xs : List D} {vs : List V} (k : Bk K mg m H (.loc hs.length) (hs ++ [.lst xs]) Q) (hr : HR K mg m hs H) (r : RVs K mg m H xs vs) {p : Addr} (e : H p = none) : Q (.ref p) (upd H p (.lst vs)) :=
  k (m ++ [p]) _ _ (Ext.push e) (hr.push e ⟨vs, upd_same, r.mono (Ext.push e)⟩) (by simp only [RV]; exact ⟨p, rfl, by simp [← hr.len]⟩)
theorem rv_tup {xs : List D} {v : V} (r : RV K mg m H (.tup xs) v) : ∃ a vs, v = .ref a ∧ SqT K H a vs ∧ RVs K mg m H xs vs := by simpa only [RV] using r
theorem rv_loc {n : Nat} {v : V} (r : RV K mg m H (.loc n) v) : ∃ a, v = .ref a ∧ m[n]? = some a := by simpa only [RV] using r
theorem rv_frl {xs : List D} {v : V} (r : RV K mg m H (.frl xs) v) : ∃ a vs, v = .ref a ∧ SqF K H a vs ∧ RVs K mg m H xs vs := by simpa only [RV] using r
theorem rv_int {i : Int} {v : V} (r : RV K mg m H (.int i) v) : v = .int i := by simpa only [RV] using r
theorem rv_bl {i : Bool} {v : V} (r : RV K mg m H (.bl i) v) : v = .bl i := by simpa only [RV] using r
theorem rv_str {i : Str} {v : V} (r : RV K mg m H (.str i) v) : v = .str i := by simpa only [RV] using r
theorem rv_non {v : V} (r : RV K mg m H .non v) : v = .non := by simpa only [RV] using r
theorem rv_ty {n : String} {v : V} (r : RV K mg m H (.ty n) v) : v = .ty n := by simpa only [RV] using r
theorem mk_int {i : Int} : RV K mg m H (.int i) (.int i) := by simp only [RV]
theorem mk_bl {i : Bool} : RV K mg m H (.bl i) (.bl i) := by simp only [RV]
theorem mk_str {i : Str} : RV K mg m H (.str i) (.str i) := by simp only [RV]
theorem mk_non : RV K mg m H .non .non := by simp only [RV]
theorem mk_ty {n : String} : RV K mg m H (.ty n) (.ty n) := by simp only [RV]
theorem mk_tup {xs : List D} {a : Addr} {vs : List V} (h : SqT K H a vs) (r : RVs K mg m H xs vs) : RV K mg m H (.tup xs) (.ref a) := by simp only [RV]; exact ⟨a, vs, rfl, h, r⟩
theorem HR.lst_at (hr : HR K mg m hs H) {n : Nat} {a : Addr} {xs : List D} (hm : m[n]? = some a) (e : hs[n]? = some (.lst xs)) : ∃ vs, H a = some (.lst vs) ∧ RVs K mg m H xs vs := hr.ob n _ a e hm
/-- a list is read, whoever owns it -/
def listOf (hs : Hs) : D → Option (List D)
  | .loc n => match hs[n]? with
    | some (.lst xs) => some xs
    | _ => none
  | .frl xs => some xs
  | _ => none
theorem list_of {d : D} {xs : List D} {v : V} (hr : HR K mg m hs H) (r : RV K mg m H d v) (e : listOf hs d = some xs) : ∃ a vs, v = .ref a ∧ SqL K H a vs ∧ RVs K mg m H xs vs := by
  cases d with
  | loc n =>
    obtain ⟨a, rfl, hm⟩ := rv_loc r
    obtain ⟨o, ho, ro⟩ := hr.at' hm
    simp only [listOf, ho] at e
    cases o with
    | lst ys => cases e; obtain ⟨vs, h1, h2⟩ := ro; exact ⟨a, vs, rfl, SqL.of h1, h2⟩
    | dct _ => cases e
    | ins _ _ => cases e
    | set _ => cases e
  | frl ys =>
    simp only [listOf] at e; cases e
    obtain ⟨a, vs, rfl, h1, h2⟩ := rv_frl r
    exact ⟨a, vs, rfl, h1.sql, h2⟩
  | _ => simp only [listOf] at e; cases e
end

def addD (a b : D) : P D := match a, b with
  | .int i, .int j => P.pure (.int (i + j))
  | .str x, .str y => if x.length + y.length ≤ sizeLine then P.pure (.str (x ++ y)) else P.stuck
  | .tup xs, .tup ys => if xs.length + ys.length ≤ sizeLine then P.pure (.tup (xs ++ ys)) else P.stuck
  | .loc m, .loc n => fun hs => match hs[m]?, hs[n]? with
    | some (.lst xs), some (.lst ys) => if xs.length + ys.length ≤ sizeLine then newL (xs ++ ys) hs else none
    | _, _ => none
  | _, _ => P.stuck
def subD (a b : D) : P D := match a, b with
  | .int i, .int j => P.pure (.int (i - j))
  | _, _ => P.stuck
/-- a text so many times -/
def strTimes (x : Str) (n : Nat) : Str := ⟨(List.replicate n x.cps).foldl (· ++ ·) #[]⟩
theorem foldl_cat : ∀ (l : List (Array Nat)) (a : Array Nat), (l.foldl (· ++ ·) a).toList = a.toList ++ (l.map Array.toList).flatten
  | [], a => by simp
  | x :: l, a => by rw [List.foldl_cons, foldl_cat l]; simp
theorem strTimes_tl (x : Str) (n : Nat) : (strTimes x n).cps.toList = (List.replicate n x.cps.toList).flatten := by
  unfold strTimes
  rw [foldl_cat]
  simp
theorem strTimes_length (x : Str) (n : Nat) : (strTimes x n).length = n * x.length := by
  have h : (strTimes x n).cps.toList.length = n * x.cps.toList.length := by rw [strTimes_tl]; simp
  simpa [Str.length] using h
def mulD (a b : D) : P D := match a, b with
  | .str x, .int k => if 0 ≤ k ∧ k ≤ 1000 ∧ x.length ≤ 1000 then P.pure (.str (strTimes x k.toNat)) else P.stuck
  | .int i, .int j => if ((-(2 ^ 64) < i ∧ i < 2 ^ 64) ∨ (-(2 ^ 64) < j ∧ j < 2 ^ 64)) ∨ (i.natAbs < 2 ^ 9000 ∧ j.natAbs < 2 ^ 9000) then P.pure (.int (i * j)) else P.stuck
  | .tup xs, .int k => if 0 ≤ k ∧ k ≤ 1000 ∧ xs.length ≤ 1000 then P.pure (.tup (List.replicate k.toNat xs).flatten) else P.stuck
  | .loc n, .int k => fun hs => match hs[n]? with
    | some (.lst xs) => if 0 ≤ k ∧ k ≤ 4000 ∧ xs.length ≤ 4000 then newL (List.replicate k.toNat xs).flatten hs else none
    | _ => none
  | _, _ => P.stuck
def fdivD (a b : D) : P D := match a, b with
  | .int i, .int j => if 0 < j ∧ j.natAbs < 2 ^ 9000 then P.pure (.int (i / j)) else P.stuck
  | _, _ => P.stuck
def modD (a b : D) : P D := match a, b with
  | .int i, .int j => if 0 < j then P.pure (.int (i % j)) else P.stuck
  | _, _ => P.stuck
def powD (a b : D) : P D := match a, b with
  | .int i, .int j => if 0 ≤ j ∧ j ≤ 1000000 ∧ i.natAbs < 2 ^ 64 then P.pure (.int (i ^ j.toNat)) else P.stuck
  | _, _ => P.stuck
def shlD (a b : D) : P D := match a, b with
  | .int i, .int j => if 0 ≤ j ∧ j ≤ 1000000 ∧ i.natAbs < 2 ^ 64 then P.pure (.int (i * 2 ^ j.toNat)) else P.stuck
  | _, _ => P.stuck
def binD : Operator → D → D → P D
  | .Add => addD
  | .Sub => subD
  | .Mult => mulD
  | .FloorDiv => fdivD
  | .Mod => modD
  | .Pow => powD
  | .LShift => shlD
  | _ => fun _ _ => P.stuck

section
variable {X : Cx}
theorem stuck_no {α : Type} {hs : Hs} {r : α × Hs} (h : (P.stuck : P α) hs = some r) : False := by cases h
theorem addD_ok : OpR X (binaryOp .Add) (rP2 X.K X.mg addD) := by
  intro pins s σ H x y v u Q I rx ry h
  obtain ⟨m, hs, a, b, d, hs', hr, ra, rb, hf, k⟩ := h
  unfold addD at hf
  split at hf
  · cases hf
    obtain rfl := rv_int ra
    obtain rfl := rv_int rb
    exact op_add pins s σ H _ _ v u Q I rx ry ⟨_, _, rfl, rfl, k.here hr mk_int⟩
  · split at hf
    · rename_i hz
      cases hf
      obtain rfl := rv_str ra
      obtain rfl := rv_str rb
      exact op_add_str pins s σ H _ _ v u Q I rx ry ⟨_, _, rfl, rfl, hz, k.here hr mk_str⟩
    · exact (stuck_no hf).elim
  · split at hf
    · rename_i hz
      cases hf
      obtain ⟨p, us, rfl, h1, q1⟩ := rv_tup ra
      obtain ⟨q, ws, rfl, h2, q2⟩ := rv_tup rb
      refine op_catA pins s σ H _ _ v u Q I rx ry ⟨p, q, us, ws, rfl, rfl, h1, h2, by rw [← q1.length, ← q2.length]; exact hz, fun e => ?_, fun _ e => ?_, fun _ _ p' hp => ?_⟩
      · subst e
        have := q1.length
        obtain rfl := List.length_eq_zero_iff.mp this
        exact k.here hr (mk_tup h2 q2)
      · subst e
        have := q2.length
        obtain rfl := List.length_eq_zero_iff.mp this
        refine k.here hr (mk_tup h1 (by simpa using q1))
      · exact k.tup hr (q1.append q2) hp
    · exact (stuck_no hf).elim
  · rename_i l n
    obtain ⟨p, rfl, hm1⟩ := rv_loc ra
    obtain ⟨q, rfl, hm2⟩ := rv_loc rb
    cases e1 : hs[l]? with
    | none => rw [e1] at hf; cases hf
    | some o1 =>
      cases e2 : hs[n]? with
      | none => rw [e1, e2] at hf; cases o1 <;> cases hf
      | some o2 =>
        rw [e1, e2] at hf
        cases o1 with
        | lst xs =>
          cases o2 with
          | lst ys =>
            simp only at hf
            split at hf
            · rename_i hz
              cases hf
              obtain ⟨us, h1, q1⟩ := hr.lst_at hm1 e1
              obtain ⟨ws, h2, q2⟩ := hr.lst_at hm2 e2
              exact op_cat pins s σ H _ _ v u Q I rx ry ⟨p, q, us, ws, rfl, rfl, h1, h2, by rw [← q1.length, ← q2.length]; exact hz, fun p' hp => k.lst hr (q1.append q2) hp⟩
            · cases hf
          | dct _ => cases hf
          | ins _ _ => cases hf
          | set _ => cases hf
        | dct _ => cases hf
        | ins _ _ => cases hf
        | set _ => cases hf
  · exact (stuck_no hf).elim
theorem subD_ok : OpR X (binaryOp .Sub) (rP2 X.K X.mg subD) := by
  intro pins s σ H x y v u Q I rx ry h
  obtain ⟨m, hs, a, b, d, hs', hr, ra, rb, hf, k⟩ := h
  unfold subD at hf
  split at hf
  · cases hf
    obtain rfl := rv_int ra
    obtain rfl := rv_int rb
    exact op_sub pins s σ H _ _ v u Q I rx ry ⟨_, _, rfl, rfl, k.here hr mk_int⟩
  · exact (stuck_no hf).elim
theorem rvs_rep {K : PySem.W.Frag} {mg : Str → Option Value} {m : List Addr} {H : Hp} {xs : List D} {vs : List V} (h : RVs K mg m H xs vs) : ∀ k : Nat, RVs K mg m H (List.replicate k xs).flatten (List.replicate k vs).flatten
  | 0 => RVs.nil_iff.mpr rfl
  | k + 1 => by
    rw [List.replicate_succ, List.replicate_succ, List.flatten_cons, List.flatten_cons]
    exact h.append (rvs_rep h k)
theorem mulD_ok : OpR X (binaryOp .Mult) (rP2 X.K X.mg mulD) := by
  intro pins s σ H x y v u Q I rx ry h
  obtain ⟨m, hs, a, b, d, hs', hr, ra, rb, hf, k⟩ := h
  unfold mulD at hf
  split at hf
  · split at hf
    · rename_i x0 k0 hc
      cases hf
      obtain rfl := rv_str ra
      obtain rfl := rv_int rb
      obtain ⟨t, rfl⟩ := rx
      obtain ⟨t', rfl⟩ := ry
      have small : x0.length * k0.toNat ≤ 1000000 := by
        have := Nat.mul_le_mul hc.2.2 (show k0.toNat ≤ 1000 by omega)
        omega
      have fits : x0.length * k0.toNat ≤ sizeLine := Nat.le_trans small (by rw [sizeLine_eq]; decide)
      have hQ := k.here hr (mk_str (i := strTimes x0 k0.toNat))
      refine PySem.P.mul_str (by have h1 : ¬ k0 < -(2 ^ 63 : Int) := by omega
                                 have h2 : ¬ k0 ≥ 2 ^ 63 := by omega
                                 rw [decide_eq_false h1, decide_eq_false h2]; rfl) (fun h1 _ => ?_) (fun _ _ => ?_) ?_
      · have h3 : (x0.length : Int) ≤ 1000 := by omega
        have h4 : (1000 : Int) ≤ (2 ^ 63 - 1) / k0 := (Int.le_ediv_iff_mul_le (by omega)).mpr (by omega)
        omega
      · unfold PySem.Builtin.Str.tooLong
        simpa using fits
      · split
        · rename_i h1
          have hz : k0.toNat = 0 := by omega
          rw [hz] at hQ
          exact ⟨by rw [sizeLine_eq]; decide, .str _, H, I.tok _, ⟨_, rfl⟩, hQ⟩
        · split
          · rename_i h1 h2
            have e : strTimes x0 k0.toNat = x0 := by
              refine PySem.Str.ext' (Array.toList_inj.mp ?_)
              rw [strTimes_tl]
              simp only [Bool.or_eq_true, beq_iff_eq] at h2
              rcases h2 with h2 | h2
              · subst h2; simp
              · have : x0.cps.toList = [] := List.length_eq_zero_iff.mp (by simpa [Str.length] using h2)
                rw [this]; simp
            rw [e] at hQ
            exact ⟨.str _, H, I, ⟨_, rfl⟩, hQ⟩
          · exact ⟨by show (strTimes x0 k0.toNat).length ≤ _; rw [strTimes_length, Nat.mul_comm]; exact fits, .str _, H, I.tok _, ⟨_, rfl⟩, hQ⟩
    · exact (stuck_no hf).elim
  · split at hf
    · rename_i hc
      cases hf
      obtain rfl := rv_int ra
      obtain rfl := rv_int rb
      rcases hc with hc | ⟨h1, h2⟩
      · exact op_mul pins s σ H _ _ v u Q I rx ry ⟨_, _, rfl, rfl, hc, k.here hr mk_int⟩
      · exact op_mulW pins s σ H _ _ v u Q I rx ry ⟨_, _, rfl, rfl, wide_mul h1 h2 (by decide) (by decide) (by decide), k.here hr mk_int⟩
    · exact (stuck_no hf).elim
  · split at hf
    · rename_i hc
      rename_i xs k0
      obtain ⟨h2, h3, hz⟩ := hc
      cases hf
      obtain ⟨p, us, rfl, h1, q1⟩ := rv_tup ra
      obtain rfl := rv_int rb
      have hl := q1.length
      by_cases one : k0 = 1
      · subst one
        exact op_repF pins s σ H _ _ v u Q I rx ry ⟨p, _, us, rfl, rfl, h1, .inl ⟨.inl rfl, k.here hr (mk_tup h1 (by simpa using q1))⟩⟩
      by_cases em : us = []
      · subst em
        have : xs = [] := List.length_eq_zero_iff.mp hl
        subst this
        have fl : (List.replicate k0.toNat ([] : List D)).flatten = [] := by simp
        rw [fl] at k
        exact op_repF pins s σ H _ _ v u Q I rx ry ⟨p, _, [], rfl, rfl, h1, .inl ⟨.inr ⟨rfl, h2, h3⟩, k.here hr (mk_tup h1 q1)⟩⟩
      by_cases ze : k0 = 0
      · subst ze
        exact op_repF pins s σ H _ _ v u Q I rx ry ⟨p, _, us, rfl, rfl, h1, .inr ⟨⟨rfl, em⟩, fun p' hp => k.tup hr (RVs.nil_iff.mpr rfl) hp⟩⟩
      have hne : xs ≠ [] := fun e => em (by subst e; exact RVs.nil_iff.mp q1)
      have h2 : 2 ≤ k0 := by omega
      refine op_repT pins s σ H _ _ v u Q I rx ry ⟨p, _, us, rfl, rfl, h1, fun e => hne ?_, h2, h3, by omega, fun p' hp => k.tup hr (rvs_rep q1 _) hp⟩
      subst e
      exact List.length_eq_zero_iff.mp hl
    · exact (stuck_no hf).elim
  · rename_i n j
    obtain ⟨p, rfl, hm1⟩ := rv_loc ra
    obtain rfl := rv_int rb
    cases e1 : hs[n]? with
    | none => rw [e1] at hf; cases hf
    | some o1 =>
      rw [e1] at hf
      cases o1 with
      | lst xs =>
        simp only at hf
        split at hf
        · rename_i hz
          cases hf
          obtain ⟨us, h1, q1⟩ := hr.lst_at hm1 e1
          have hl := q1.length
          refine op_rep pins s σ H _ _ v u Q I rx ry ⟨p, _, us, rfl, rfl, h1, by omega, by omega, ?_, fun p' hp => k.lst hr (rvs_rep q1 _) hp⟩
          rw [sizeLine_eq]
          have a1 : us.length * j.toNat ≤ 4000 * 4000 := Nat.mul_le_mul (by omega) (by omega)
          omega
        · cases hf
      | dct _ => cases hf
      | ins _ _ => cases hf
      | set _ => cases hf
  · exact (stuck_no hf).elim
theorem fdivD_ok : OpR X (binaryOp .FloorDiv) (rP2 X.K X.mg fdivD) := by
  intro pins s σ H x y v u Q I rx ry h
  obtain ⟨m, hs, a, b, d, hs', hr, ra, rb, hf, k⟩ := h
  unfold fdivD at hf
  split at hf
  · split at hf
    · rename_i hc
      cases hf
      obtain rfl := rv_int ra
      obtain rfl := rv_int rb
      exact op_fdivW pins s σ H _ _ v u Q I rx ry ⟨_, _, rfl, rfl, wide_div hc.1 hc.2 (by decide) (by decide), k.here hr mk_int⟩
    · exact (stuck_no hf).elim
  · exact (stuck_no hf).elim
theorem modD_ok : OpR X (binaryOp .Mod) (rP2 X.K X.mg modD) := by
  intro pins s σ H x y v u Q I rx ry h
  obtain ⟨m, hs, a, b, d, hs', hr, ra, rb, hf, k⟩ := h
  unfold modD at hf
  split at hf
  · split at hf
    · rename_i hc
      cases hf
      obtain rfl := rv_int ra
      obtain rfl := rv_int rb
      exact op_mod pins s σ H _ _ v u Q I rx ry ⟨_, _, rfl, rfl, hc, k.here hr mk_int⟩
    · exact (stuck_no hf).elim
  · exact (stuck_no hf).elim
theorem powD_ok : OpR X (binaryOp .Pow) (rP2 X.K X.mg powD) := by
  intro pins s σ H x y v u Q I rx ry h
  obtain ⟨m, hs, a, b, d, hs', hr, ra, rb, hf, k⟩ := h
  unfold powD at hf
  split at hf
  · split at hf
    · rename_i hc
      cases hf
      obtain rfl := rv_int ra
      obtain rfl := rv_int rb
      exact op_pow pins s σ H _ _ v u Q I rx ry ⟨_, _, rfl, rfl, hc, k.here hr mk_int⟩
    · exact (stuck_no hf).elim
  · exact (stuck_no hf).elim
theorem shlD_ok : OpR X (binaryOp .LShift) (rP2 X.K X.mg shlD) := by
  intro pins s σ H x y v u Q I rx ry h
  obtain ⟨m, hs, a, b, d, hs', hr, ra, rb, hf, k⟩ := h
  unfold shlD at hf
  split at hf
  · split at hf
    · rename_i hc
      cases hf
      obtain rfl := rv_int ra
      obtain rfl := rv_int rb
      exact op_shl pins s σ H _ _ v u Q I rx ry ⟨_, _, rfl, rfl, hc, k.here hr mk_int⟩
    · exact (stuck_no hf).elim
  · exact (stuck_no hf).elim
theorem no_op {f : Value → Value → Sem Value} : OpR X f (rP2 X.K X.mg fun _ _ => P.stuck) := by
  intro pins s σ H x y v u Q I rx ry h
  obtain ⟨m, hs, a, b, d, hs', hr, ra, rb, hf, k⟩ := h
  exact (stuck_no hf).elim
theorem binD_ok (op : Operator) : OpR X (binaryOp op) (rP2 X.K X.mg (binD op)) := by
  cases op with
  | Add => exact addD_ok
  | Sub => exact subD_ok
  | Mult => exact mulD_ok
  | FloorDiv => exact fdivD_ok
  | Mod => exact modD_ok
  | Pow => exact powD_ok
  | LShift => exact shlD_ok
  | _ => exact no_op
end
end DL
set_option Elab.async false
set_option linter.all false
set_option maxRecDepth 100000
set_option maxHeartbeats 4000000
namespace DL
open PySem PySem.Spec PyProof.Rows L2

/-! ## any thing against the empty tuple -/
section
variable {prog : Program} {w : World} {A : Around} {E : Value → Shared → Prop} {s : Shared}
theorem dict_eq_tuple (l b : Addr) : Meets (Builtin.«dict.__eq__» ⟨[.ref l, .ref b], []⟩) (fun _ R s => s.TypeIs (.ref l) "dict" ∧ s.TypeIs (.ref b) "tuple" ∧ R (.ok (.ret .notImplemented)) s) :=
  .of_wp fun prog w A R s ⟨hl, hb, h⟩ => by
    show wpAny _ _ (Builtin.Dict.dictSlotArgs "__eq__" ⟨[.ref l, .ref b], []⟩ >>= _) _ _ s
    refine wpAny_bind ?_
    unfold Builtin.Dict.dictSlotArgs
    refine wpAny_bind (wpAny_notOrdered_dict hl ?_)
    show wpAny _ _ (pure (Value.ref l, Value.ref b)) _ _ s
    refine wpAny_pure ?_
    show wpAny _ _ (isInstance (.ref b) (.type "dict") >>= _) _ _ s
    refine wpAny_bind (wpAny_isInstance hb PySem.F.sub_tuple_dict ?_)
    simp only [Bool.not_false, if_true]
    refine wpAny_bind (wpAny_rule (wpAny_pure ⟨_, rfl, h⟩))
theorem tuple_eq_dict (l b : Addr) (items : Array Value) (n : Nat) (dd : Option Addr) (sl : Array (Option Value)) : Meets (Builtin.«tuple.__eq__» ⟨[.ref l, .ref b], []⟩) (fun _ R s => s.TypeIs (.ref b) "dict" ∧ R (.ok (.ret .notImplemented)) s) :=
  .of_wp fun prog w A R s ⟨hb, h⟩ => by
    show wpAny _ _ (isInstance (.ref b) (.type "tuple") >>= _) _ _ s
    refine wpAny_bind (wpAny_isInstance hb PySem.F.sub_dict_tuple ?_)
    simp only [Bool.not_false, if_true]
    exact wpAny_pure ⟨_, rfl, h⟩
end
end DL
namespace DL
open PySem PySem.Spec PyProof.Rows L2
section
variable {prog : Program} {w : World} {A : Around} {E : Value → Shared → Prop} {s : Shared}
theorem rc_dict_tuple {l b : Addr} {o o2 : Obj} (ho : s.heap.get? l = some o) (hc : o.cls = .type "dict") (ho2 : s.heap.get? b = some o2) (hc2 : o2.cls = .type "tuple") (hu : A.units < cLine) : SeqAt.RcAt A s (.ref l) (.ref b) false := fun prog w E Q h => by
  have hne : l ≠ b := fun e => by
    subst e
    rw [ho] at ho2
    cases ho2
    rw [hc] at hc2
    exact absurd hc2 (by decide)
  have t1 : s.TypeIs (.ref l) "dict" := ⟨_, ho, hc⟩
  have t2 : s.TypeIs (.ref b) "tuple" := ⟨_, ho2, hc2⟩
  exact SeqAt.rc_eq_decline_or (k := false) t1 t2 (by decide) PySem.F.sub_tuple_dict PySem.F.slot_dict_eq PySem.F.slot_tuple_eq_refl
    (fun _ hq => call_meets PySem.F.slot_dict_eq t1 PySem.F.entry_dict_eq (PySem.F.args_dict_eq_2 _ _) (dict_eq_tuple l b) ⟨t1, t2, hq⟩)
    (fun _ hq => call_meets PySem.F.slot_tuple_eq_refl t2 PySem.F.entry_tuple_eq (PySem.F.args_tuple_eq_2 _ _) (tuple_eq_dict b l #[] 0 none #[]) ⟨t1, hq⟩)
    (fun _ hq => wpAny_isSame_ref_other hne ho ho2 (by rw [hc]; decide) hq) (.inr hu) h
/-- what a thing tells against the empty tuple -/
def EqNil (K : PySem.W.Frag) (H : Hp) : V → Bool → Prop
  | .non, c => c = false
  | .bl _, c => c = false
  | .int _, c => c = false
  | .str _, c => c = false
  | .ref a, c => (∃ xs, SqL K H a xs ∧ c = false) ∨ (∃ xs, SqT K H a xs ∧ c = xs.isEmpty) ∨ ∃ kvs, Rd H a (.dK kvs) ∧ c = false
  | _, _ => False
theorem op_eqNil {X : Cx} (hu : X.A.units + 64 < cLine) : OpR X (compareOp .Eq) (fun x y H Q => ∃ t c, y = .ref t ∧ SqT X.K H t [] ∧ EqNil X.K H x c ∧ Q (.bl c) H) := by
  intro pins s σ H x y v u Q I rx ry h
  obtain ⟨t, c, rfl, hT, hE, q⟩ := h
  cases ry
  obtain ⟨its, rv, p, hz⟩ := I.tuple hT
  cases rv
  have p : s.heap.IsTuple t #[] := p
  have hu' : X.A.units < cLine := by omega
  cases x with
  | non => cases rx; cases hE; exact SeqAt.RcAt.none_tuple p hu' X.prog X.w _ _ ⟨.bl false, H, I, rfl, q⟩
  | bl b => cases rx; cases hE; exact SeqAt.RcAt.bool_tuple b p hu' X.prog X.w _ _ ⟨.bl false, H, I, rfl, q⟩
  | int i => obtain ⟨t, rfl⟩ := rx; cases hE; exact SeqAt.RcAt.int_tuple i t p hu' X.prog X.w _ _ ⟨.bl false, H, I, rfl, q⟩
  | str i => obtain ⟨t, rfl⟩ := rx; cases hE; exact SeqAt.RcAt.str_tuple i t p hu' X.prog X.w _ _ ⟨.bl false, H, I, rfl, q⟩
  | ref a =>
    cases rx
    rcases hE with ⟨xs, hL, rfl⟩ | ⟨xs, hL, rfl⟩ | ⟨kvs, hD, rfl⟩
    · obtain ⟨its, rv, pl, hz⟩ := I.list hL
      exact SeqAt.RcAt.list_tuple pl.isList p hu' X.prog X.w _ _ ⟨.bl false, H, I, rfl, q⟩
    · obtain ⟨its, rv, pl, hz⟩ := I.tuple hL
      have e : xs.isEmpty = (((List.range (min its.toArray.size (#[] : Array Value).size)).all fun _ => true) && its.toArray.size == (#[] : Array Value).size) := by
        cases rv <;> simp
      exact SeqAt.eq_tupleAt (e := fun _ => true) (show s.heap.IsTuple a its.toArray from pl) p hu' (fun j h1 h2 => by simp at h2) ⟨.bl _, H, I, by rw [← e]; rfl, q⟩
    · obtain ⟨z, y, vs, r, o, es, ep, h1, h2, h3⟩ := dk_rd I.hok hD
      obtain ⟨o2, h4, h5, h6⟩ := id p
      exact rc_dict_tuple h1 h2.1 h4 h5 hu' X.prog X.w _ _ ⟨.bl false, H, I, rfl, q⟩
  | _ => exact hE.elim
end
end DL
set_option Elab.async false
set_option linter.all false
set_option maxRecDepth 100000
set_option maxHeartbeats 4000000
namespace DL
open PySem PySem.Spec PyProof.Rows L2

/-! ## comparisons -/
def pdNone : PyData → Bool
  | .none => true
  | _ => false
def ordD (f : PyData → PyData → Bool) (a b : D) : P D := fun hs => match a.data hs, b.data hs with
  | some p, some q => if (PySem.W.alike p q && !pdNone p && SeqAt.shaped p) = true then some (.bl (f p q), hs) else none
  | _, _ => none
def inD (hs : Hs) (a b : D) : Option Bool := match a, b with
  | .str x, .str y => some (!(Builtin.Str.occurrences y x 0 y.length 1).isEmpty)
  | a, b => match a.data hs, b.data hs with
    | some p, some (.list ys) => if (SeqAt.shaped p && SeqAt.shaped (.list ys)) = true then some (ys.any fun z => PyData.eqv z p) else none
    | some p, some (.tuple ys) => if (SeqAt.shaped p && SeqAt.shaped (.tuple ys)) = true then some (ys.any fun z => PyData.eqv z p) else none
    | _, _ => none
def isN : D → Bool
  | .non => true
  | _ => false
def answers (o : Option Bool) : P D := fun hs => match o with
  | some c => some (.bl c, hs)
  | none => none
def ltD (a b : D) : P D := match a, b with
  | .int i, .int j => P.pure (.bl (decide (i < j)))
  | a, b => ordD (fun p q => PySem.W.dataLt p q) a b
def leD (a b : D) : P D := match a, b with
  | .int i, .int j => P.pure (.bl (decide (i ≤ j)))
  | a, b => ordD (fun p q => !PySem.W.dataLt q p) a b
def gtD (a b : D) : P D := match a, b with
  | .int i, .int j => P.pure (.bl (decide (j < i)))
  | a, b => ordD (fun p q => PySem.W.dataLt q p) a b
def geD (a b : D) : P D := match a, b with
  | .int i, .int j => P.pure (.bl (decide (j ≤ i)))
  | a, b => ordD (fun p q => !PySem.W.dataLt p q) a b
def isD (a b : D) : P D := match a, b with
  | a, .non => P.pure (.bl (isN a))
  | .bl x, .bl y => P.pure (.bl (decide (x = y)))
  | _, _ => P.stuck
def isNotD (a b : D) : P D := match a, b with
  | a, .non => P.pure (.bl (!isN a))
  | .bl x, .bl y => P.pure (.bl (!decide (x = y)))
  | _, _ => P.stuck
/-- anything against the empty tuple -/
def eqNil (hs : Hs) : D → D → Option Bool
  | .tup xs, .tup [] => some xs.isEmpty
  | .frl _, .tup [] => some false
  | .non, .tup [] => some false
  | .bl _, .tup [] => some false
  | .int _, .tup [] => some false
  | .str _, .tup [] => some false
  | .loc n, .tup [] => match hs[n]? with
    | some (.lst _) => some false
    | some (.dct _) => some false
    | _ => none
  | _, _ => none
def eqX (hs : Hs) (a b : D) : Option Bool := match eqD hs a b with
  | some c => some c
  | none => eqNil hs a b
def cmpD (op : CmpOp) (a b : D) : P D := match op with
  | .Eq => fun hs => answers (eqX hs a b) hs
  | .NotEq => fun hs => answers ((eqD hs a b).map (!·)) hs
  | .Lt => ltD a b
  | .LtE => leD a b
  | .Gt => gtD a b
  | .GtE => geD a b
  | .Is => isD a b
  | .IsNot => isNotD a b
  | .In => fun hs => answers (inD hs a b) hs
  | .NotIn => fun hs => answers ((inD hs a b).map (!·)) hs
section
variable {X : Cx}
theorem answers_some {o : Option Bool} {hs hs' : Hs} {d : D} (h : answers o hs = some (d, hs')) : ∃ c, o = some c ∧ d = .bl c ∧ hs' = hs := by
  unfold answers at h
  cases o with
  | none => cases h
  | some c => cases h; exact ⟨c, rfl, rfl, rfl⟩
theorem eqDd_some {hs : Hs} {a b : D} {c : Bool} (h : eqDd hs a b = some c) : ∃ p q, a.data hs = some p ∧ b.data hs = some q ∧ SeqAt.shaped p = true ∧ SeqAt.shaped q = true ∧ c = PyData.eqv p q := by
  unfold eqDd at h
  split at h
  · rename_i p q e1 e2
    split at h
    · rename_i hc
      cases h
      simp only [Bool.and_eq_true] at hc
      exact ⟨p, q, e1, e2, hc.1, hc.2, rfl⟩
    · cases h
  · cases h
theorem eqD_some {hs : Hs} {a b : D} {c : Bool} (h : eqD hs a b = some c) : (∃ x y, a = .str x ∧ b = .str y ∧ c = decide (x = y)) ∨ ∃ p q, a.data hs = some p ∧ b.data hs = some q ∧ SeqAt.shaped p = true ∧ SeqAt.shaped q = true ∧ c = PyData.eqv p q := by
  unfold eqD at h
  split at h
  · cases h
    exact .inl ⟨_, _, rfl, rfl, rfl⟩
  · exact .inr (eqDd_some h)
theorem eqNil_ok {K : PySem.W.Frag} {mg : Str → Option Value} {m : List Addr} {H : Hp} {hs : Hs} {a b : D} {c : Bool} {x y : V} (hr : HR K mg m hs H) (ra : RV K mg m H a x) (rb : RV K mg m H b y) (h : eqNil hs a b = some c) :
    ∃ t, y = .ref t ∧ SqT K H t [] ∧ EqNil K H x c := by
  have nil : b = .tup [] → ∃ t, y = .ref t ∧ SqT K H t [] := fun e => by
    subst e
    obtain ⟨t, vs, rfl, h1, h2⟩ := rv_tup rb
    rw [RVs.nil_iff] at h2
    subst h2
    exact ⟨t, rfl, h1⟩
  unfold eqNil at h
  split at h
  · cases h
    obtain ⟨t, e, hT⟩ := nil rfl
    obtain ⟨p, us, rfl, h1, q1⟩ := rv_tup ra
    refine ⟨t, e, hT, .inr (.inl ⟨us, h1, ?_⟩)⟩
    have := q1.length
    rename_i xs
    cases xs <;> cases us <;> simp at this ⊢
  · cases h
    obtain ⟨t, e, hT⟩ := nil rfl
    obtain ⟨p, us, rfl, h1, q1⟩ := rv_frl ra
    exact ⟨t, e, hT, .inl ⟨us, h1.sql, rfl⟩⟩
  · cases h
    obtain ⟨t, e, hT⟩ := nil rfl
    obtain rfl := rv_non ra
    exact ⟨t, e, hT, rfl⟩
  · cases h
    obtain ⟨t, e, hT⟩ := nil rfl
    obtain rfl := rv_bl ra
    exact ⟨t, e, hT, rfl⟩
  · cases h
    obtain ⟨t, e, hT⟩ := nil rfl
    obtain rfl := rv_int ra
    exact ⟨t, e, hT, rfl⟩
  · cases h
    obtain ⟨t, e, hT⟩ := nil rfl
    obtain rfl := rv_str ra
    exact ⟨t, e, hT, rfl⟩
  · obtain ⟨t, e, hT⟩ := nil rfl
    obtain ⟨p, rfl, hm⟩ := rv_loc ra
    obtain ⟨o, ho, ro⟩ := hr.at' hm
    rw [ho] at h
    cases o with
    | lst xs => cases h; obtain ⟨vs, h1, h2⟩ := ro; exact ⟨t, e, hT, .inl ⟨vs, SqL.of h1, rfl⟩⟩
    | dct kvs => cases h; obtain ⟨ks, h1, h2⟩ := ro; exact ⟨t, e, hT, .inr (.inr ⟨ks, .inl h1, rfl⟩)⟩
    | ins _ _ => cases h
    | set _ => cases h
  · cases h
theorem eq_ok (hu : X.A.units + 64 < cLine) : OpR X (compareOp .Eq) (rP2 X.K X.mg (cmpD .Eq)) := by
  intro pins s σ H x y v u Q I rx ry h
  obtain ⟨m, hs, a, b, d, hs', hr, ra, rb, hf, k⟩ := h
  obtain ⟨c, h1, rfl, rfl⟩ := answers_some hf
  cases h0 : eqD hs' a b with
  | none =>
    unfold eqX at h1
    rw [h0] at h1
    obtain ⟨t, rfl, hT, hE⟩ := eqNil_ok hr ra rb h1
    exact op_eqNil hu pins s σ H x _ v u Q I rx ry ⟨t, c, rfl, hT, hE, k.here hr mk_bl⟩
  | some c' =>
  unfold eqX at h1
  rw [h0] at h1
  cases h1
  rcases eqD_some h0 with ⟨z, w, rfl, rfl, rfl⟩ | ⟨p, q, e1, e2, s1, s2, rfl⟩
  · rw [rv_str ra] at rx
    rw [rv_str rb] at ry
    have e : decide (V.str z = V.str w) = decide (z = w) := by simp
    exact op_eq pins s σ H _ _ v u Q I rx ry ⟨rfl, by rw [e]; exact k.here hr mk_bl⟩
  · exact op_eqD hu pins s σ H _ _ v u Q I rx ry ⟨p, q, data_ok hr e1 ra, data_ok hr e2 rb, s1, s2, k.here hr mk_bl⟩
theorem ne_ok (hu : X.A.units + 64 < cLine) : OpR X (compareOp .NotEq) (rP2 X.K X.mg (cmpD .NotEq)) := by
  intro pins s σ H x y v u Q I rx ry h
  obtain ⟨m, hs, a, b, d, hs', hr, ra, rb, hf, k⟩ := h
  obtain ⟨c, h1, rfl, rfl⟩ := answers_some hf
  obtain ⟨c', h2, rfl⟩ := Option.map_eq_some_iff.mp h1
  rcases eqD_some h2 with ⟨z, w, rfl, rfl, rfl⟩ | ⟨p, q, e1, e2, s1, s2, rfl⟩
  · rw [rv_str ra] at rx
    rw [rv_str rb] at ry
    have e : decide (V.str z = V.str w) = decide (z = w) := by simp
    exact op_ne pins s σ H _ _ v u Q I rx ry ⟨rfl, by rw [e]; exact k.here hr mk_bl⟩
  · exact op_neD hu pins s σ H _ _ v u Q I rx ry ⟨p, q, data_ok hr e1 ra, data_ok hr e2 rb, s1, s2, k.here hr mk_bl⟩
theorem ord_ok {op : CmpOp} {f : PyData → PyData → Bool} (hu : X.A.units + 64 < cLine)
    (rule : ∀ {s : Shared} {a b : Value} {da db : PyData} {as bs : List Addr} {Q : Value → Shared → Prop}, Reads s.heap a da as → Reads s.heap b db bs → PySem.W.alike da db = true → da ≠ .none → X.A.units + min da.depth db.depth < cLine → Q (.bool (f da db)) s →
      wpAny (model X.prog X.w) X.A (compareOp op a b) Q X.xe s) : OpR X (compareOp op) (rP2 X.K X.mg (ordD f)) := by
  intro pins s σ H x y v u Q I rx ry h
  obtain ⟨m, hs, a, b, d, hs', hr, ra, rb, hf, k⟩ := h
  unfold ordD at hf
  split at hf
  · rename_i p q e1 e2
    split at hf
    · rename_i hc
      cases hf
      simp only [Bool.and_eq_true] at hc
      obtain ⟨as, r1⟩ := Dp.reads I p x v (data_ok hr e1 ra) rx
      obtain ⟨bs, r2⟩ := Dp.reads I q y u (data_ok hr e2 rb) ry
      have hn : p ≠ .none := fun e => by rw [e] at hc; simp [pdNone] at hc
      have hd := SeqAt.depth_of_shaped hc.2
      have hmin : min p.depth q.depth ≤ p.depth := Nat.min_le_left _ _
      exact rule r1 r2 hc.1.1 hn (by omega) ⟨.bl _, H, I, rfl, k.here hr mk_bl⟩
    · cases hf
  · cases hf
/-- a comparison in two roads: ints, data -/
theorem ints_or {op : CmpOp} {g : Int → Int → Bool} {f : D → D → P D} {h : D → D → P D} (hi : OpR X (compareOp op) (rI0 fun i j => .bl (g i j))) (hd : OpR X (compareOp op) (rP2 X.K X.mg f))
    (hh : ∀ a b, (∃ i j, a = .int i ∧ b = .int j ∧ h a b = P.pure (.bl (g i j))) ∨ h a b = f a b) : OpR X (compareOp op) (rP2 X.K X.mg h) := by
  intro pins s σ H x y v u Q I rx ry q
  obtain ⟨m, hs, a, b, d, hs', hr, ra, rb, hf, k⟩ := q
  rcases hh a b with ⟨i, j, rfl, rfl, e⟩ | e
  · rw [e] at hf
    cases hf
    obtain rfl := rv_int ra
    obtain rfl := rv_int rb
    exact hi pins s σ H _ _ v u Q I rx ry ⟨_, _, rfl, rfl, k.here hr mk_bl⟩
  · rw [e] at hf
    exact hd pins s σ H x y v u Q I rx ry ⟨m, hs, a, b, d, hs', hr, ra, rb, hf, k⟩
theorem in_some {hs : Hs} {a b : D} {c : Bool} (h : inD hs a b = some c) : (∃ x y, a = .str x ∧ b = .str y ∧ c = !(Builtin.Str.occurrences y x 0 y.length 1).isEmpty) ∨
    ∃ p ys, a.data hs = some p ∧ SeqAt.shaped p = true ∧ c = (ys.any fun z => PyData.eqv z p) ∧ ((b.data hs = some (.list ys) ∧ SeqAt.shaped (.list ys) = true) ∨ (b.data hs = some (.tuple ys) ∧ SeqAt.shaped (.tuple ys) = true)) := by
  unfold inD at h
  split at h
  · cases h; exact .inl ⟨_, _, rfl, rfl, rfl⟩
  · right
    split at h
    · rename_i p ys e1 e2
      split at h
      · rename_i hc
        cases h
        simp only [Bool.and_eq_true] at hc
        exact ⟨p, ys, e1, hc.1, rfl, .inl ⟨e2, hc.2⟩⟩
      · cases h
    · rename_i p ys e1 e2
      split at h
      · rename_i hc
        cases h
        simp only [Bool.and_eq_true] at hc
        exact ⟨p, ys, e1, hc.1, rfl, .inr ⟨e2, hc.2⟩⟩
      · cases h
    · cases h
theorem in_ok (hu : X.A.units + 65 < cLine) : OpR X (compareOp .In) (rP2 X.K X.mg (cmpD .In)) := by
  intro pins s σ H x y v u Q I rx ry h
  obtain ⟨m, hs, a, b, d, hs', hr, ra, rb, hf, k⟩ := h
  obtain ⟨c, h1, rfl, rfl⟩ := answers_some hf
  rcases in_some h1 with ⟨z, w, rfl, rfl, rfl⟩ | ⟨p, ys, e1, s1, rfl, ⟨e2, s2⟩ | ⟨e2, s2⟩⟩
  · obtain rfl := rv_str ra
    obtain rfl := rv_str rb
    exact op_in_str pins s σ H _ _ v u Q I rx ry ⟨_, _, rfl, rfl, k.here hr mk_bl⟩
  · exact op_inD hu pins s σ H _ _ v u Q I rx ry ⟨p, ys, data_ok hr e1 ra, data_ok hr e2 rb, s1, s2, k.here hr mk_bl⟩
  · obtain ⟨as, r1⟩ := Dp.reads I p x v (data_ok hr e1 ra) rx
    obtain ⟨bs, r2⟩ := Dp.reads I _ y u (data_ok hr e2 rb) ry
    exact SeqAt.in_tuple_reads r2 r1 (SeqAt.canLay_of_shaped s2) (SeqAt.canLay_of_shaped s1) (room_in_shaped s1 hu) ⟨.bl _, H, I, rfl, k.here hr mk_bl⟩
theorem notIn_ok (hu : X.A.units + 65 < cLine) : OpR X (compareOp .NotIn) (rP2 X.K X.mg (cmpD .NotIn)) := by
  intro pins s σ H x y v u Q I rx ry h
  obtain ⟨m, hs, a, b, d, hs', hr, ra, rb, hf, k⟩ := h
  obtain ⟨c, h1, rfl, rfl⟩ := answers_some hf
  obtain ⟨c', h2, rfl⟩ := Option.map_eq_some_iff.mp h1
  rcases in_some h2 with ⟨z, w, rfl, rfl, rfl⟩ | ⟨p, ys, e1, s1, rfl, ⟨e2, s2⟩ | ⟨e2, s2⟩⟩
  · obtain rfl := rv_str ra
    obtain rfl := rv_str rb
    exact op_notin_str pins s σ H _ _ v u Q I rx ry ⟨_, _, rfl, rfl, k.here hr mk_bl⟩
  · exact op_notInD hu pins s σ H _ _ v u Q I rx ry ⟨p, ys, data_ok hr e1 ra, data_ok hr e2 rb, s1, s2, k.here hr mk_bl⟩
  · obtain ⟨as, r1⟩ := Dp.reads I p x v (data_ok hr e1 ra) rx
    obtain ⟨bs, r2⟩ := Dp.reads I _ y u (data_ok hr e2 rb) ry
    exact SeqAt.notIn_tuple_reads r2 r1 (SeqAt.canLay_of_shaped s2) (SeqAt.canLay_of_shaped s1) (room_in_shaped s1 hu) ⟨.bl _, H, I, rfl, k.here hr mk_bl⟩
theorem isN_of {K : PySem.W.Frag} {mg : Str → Option Value} {m : List Addr} {H : Hp} {a : D} {x : V} (r : RV K mg m H a x) : decide (x = V.non) = isN a := by
  cases a <;> simp only [RV] at r <;> first | (subst r; simp [isN]) | (obtain ⟨rfl, _⟩ := r; simp [isN]) | (obtain ⟨_, rfl, _⟩ := r; simp [isN]) | (obtain ⟨_, _, rfl, _⟩ := r; simp [isN])
theorem cmpD_ok (hu : X.A.units + 65 < cLine) (op : CmpOp) : OpR X (compareOp op) (rP2 X.K X.mg (cmpD op)) := by
  have hu' : X.A.units + 64 < cLine := by omega
  cases op with
  | Eq => exact eq_ok hu'
  | NotEq => exact ne_ok hu'
  | Lt =>
    show OpR X _ (rP2 X.K X.mg ltD)
    refine ints_or op_lt (ord_ok hu' fun r1 r2 h hn hd q => PySem.W.lt_data r1 r2 h hn hd q) fun a b => ?_
    unfold ltD
    split
    · exact .inl ⟨_, _, rfl, rfl, rfl⟩
    · exact .inr rfl
  | LtE =>
    show OpR X _ (rP2 X.K X.mg leD)
    refine ints_or op_le (ord_ok hu' fun r1 r2 h hn hd q => PySem.W.le_data r1 r2 h hn hd q) fun a b => ?_
    unfold leD
    split
    · exact .inl ⟨_, _, rfl, rfl, rfl⟩
    · exact .inr rfl
  | Gt =>
    show OpR X _ (rP2 X.K X.mg gtD)
    refine ints_or op_gt (ord_ok hu' fun r1 r2 h hn hd q => PySem.W.gt_data r1 r2 h hn hd q) fun a b => ?_
    unfold gtD
    split
    · exact .inl ⟨_, _, rfl, rfl, rfl⟩
    · exact .inr rfl
  | GtE =>
    show OpR X _ (rP2 X.K X.mg geD)
    refine ints_or op_ge (ord_ok hu' fun r1 r2 h hn hd q => PySem.W.ge_data r1 r2 h hn hd q) fun a b => ?_
    unfold geD
    split
    · exact .inl ⟨_, _, rfl, rfl, rfl⟩
    · exact .inr rfl
  | Is =>
    intro pins s σ H x y v u Q I rx ry h
    obtain ⟨m, hs, a, b, d, hs', hr, ra, rb, hf, k⟩ := h
    simp only [cmpD, isD] at hf
    split at hf
    · cases hf
      obtain rfl := rv_non rb
      exact op_isN pins s σ H _ _ v u Q I rx ry ⟨rfl, by rw [isN_of ra]; exact k.here hr mk_bl⟩
    · cases hf
      obtain rfl := rv_bl ra
      obtain rfl := rv_bl rb
      exact op_isBl pins s σ H _ _ v u Q I rx ry ⟨_, _, rfl, rfl, k.here hr mk_bl⟩
    · exact (stuck_no hf).elim
  | IsNot =>
    intro pins s σ H x y v u Q I rx ry h
    obtain ⟨m, hs, a, b, d, hs', hr, ra, rb, hf, k⟩ := h
    simp only [cmpD, isNotD] at hf
    split at hf
    · cases hf
      obtain rfl := rv_non rb
      exact op_notN pins s σ H _ _ v u Q I rx ry ⟨rfl, by rw [isN_of ra]; exact k.here hr mk_bl⟩
    · cases hf
      obtain rfl := rv_bl ra
      obtain rfl := rv_bl rb
      exact op_notBl pins s σ H _ _ v u Q I rx ry ⟨_, _, rfl, rfl, k.here hr mk_bl⟩
    · exact (stuck_no hf).elim
  | In => exact in_ok hu
  | NotIn => exact notIn_ok hu
end

/-! ## truth -/
def truD (hs : Hs) : D → Option Bool
  | .non => some false
  | .bl b => some b
  | .int i => some (i != 0)
  | .str x => if x.length ≤ sizeLine then some ((x.length : Int) != 0) else none
  | .tup xs => some (!xs.isEmpty)
  | .frl xs => some (!xs.isEmpty)
  | .loc n => match hs[n]? with
    | some (.lst xs) => some (!xs.isEmpty)
    | _ => none
  | _ => none
theorem RVs.empty {K : PySem.W.Frag} {mg : Str → Option Value} {m : List Addr} {H : Hp} {xs : List D} {vs : List V} (h : RVs K mg m H xs vs) : xs.isEmpty = vs.isEmpty := by
  cases xs with
  | nil => rw [RVs.nil_iff] at h; subst h; rfl
  | cons x xs => obtain ⟨v, r, rfl, _⟩ := RVs.cons_iff.mp h; rfl
theorem truD_ok {K : PySem.W.Frag} {mg : Str → Option Value} {m : List Addr} {H : Hp} {hs : Hs} {d : D} {v : V} {c : Bool} (hr : HR K mg m hs H) (r : RV K mg m H d v) (h : truD hs d = some c) : TruV K v H c := by
  cases d with
  | non => cases h; obtain rfl := rv_non r; exact rfl
  | bl b => cases h; obtain rfl := rv_bl r; exact rfl
  | int i => cases h; obtain rfl := rv_int r; exact rfl
  | str x =>
    simp only [truD] at h
    split at h
    · cases h; obtain rfl := rv_str r; exact ⟨by assumption, rfl⟩
    · cases h
  | tup xs =>
    cases h
    obtain ⟨a, vs, rfl, h1, h2⟩ := rv_tup r
    exact .inr (.inl ⟨vs, h1, by rw [h2.empty]⟩)
  | frl xs =>
    cases h
    obtain ⟨a, vs, rfl, h1, h2⟩ := rv_frl r
    exact .inl ⟨vs, h1.sql, by rw [h2.empty]⟩
  | loc n =>
    obtain ⟨a, rfl, hm⟩ := rv_loc r
    simp only [truD] at h
    split at h
    · rename_i xs e
      cases h
      obtain ⟨vs, h1, h2⟩ := hr.lst_at hm e
      exact .inl ⟨vs, SqL.of h1, by rw [h2.empty]⟩
    · cases h
  | glo _ => cases h
  | exv => cases h
  | ty _ => cases h
end DL
set_option Elab.async false
set_option linter.all false
set_option maxRecDepth 100000
set_option maxHeartbeats 4000000
namespace DL
open PySem PySem.Spec PyProof.Rows L2

/-! ## items, slices -/
def ixD (a b : D) : P D := fun hs => match a, b with
  | .tup xs, .int i => (atI xs i).map fun d => (d, hs)
  | .str x, .int i => if x.length ≤ sizeLine then (atI x.cps.toList i).map fun c => (.str ⟨#[c]⟩, hs) else none
  | a, .int i => match listOf hs a with
    | some xs => (atI xs i).map fun d => (d, hs)
    | none => none
  | _, _ => none
theorem atI_rv {K : PySem.W.Frag} {mg : Str → Option Value} {m : List Addr} {H : Hp} {xs : List D} {vs : List V} (h : RVs K mg m H xs vs) {i : Int} {d : D} (e : atI xs i = some d) : ∃ v, atI vs i = some v ∧ RV K mg m H d v := by
  unfold atI at e ⊢
  rw [← h.length]
  cases q : ixN xs.length i with
  | none => rw [q] at e; cases e
  | some j => rw [q] at e; exact h.get e
theorem ixD_ok {X : Cx} : IxR X (rP2 X.K X.mg ixD) := by
  intro value slice pins s σ H x y v u Q I rx ry h hs
  obtain ⟨m, hh, a, b, d, hs', hr, ra, rb, hf, k⟩ := h
  unfold ixD at hf
  split at hf
  · obtain ⟨z, e, hz⟩ := Option.map_eq_some_iff.mp hf
    cases hz
    obtain ⟨p, us, rfl, h1, q1⟩ := rv_tup ra
    obtain rfl := rv_int rb
    obtain ⟨w, e2, q2⟩ := atI_rv q1 e
    exact ix_tup value slice pins s σ H _ _ v u Q I rx ry ⟨p, us, _, w, rfl, rfl, h1, e2, k.here hr q2⟩ hs
  · split at hf
    · obtain ⟨z, e, hz⟩ := Option.map_eq_some_iff.mp hf
      cases hz
      obtain rfl := rv_str ra
      obtain rfl := rv_int rb
      exact ix_str value slice pins s σ H _ _ v u Q I rx ry ⟨_, _, z, rfl, rfl, by assumption, e, k.here hr mk_str⟩ hs
    · cases hf
  · split at hf
    · rename_i xs el
      obtain ⟨z, e, hz⟩ := Option.map_eq_some_iff.mp hf
      cases hz
      obtain ⟨p, us, rfl, h1, q1⟩ := list_of hr ra el
      obtain rfl := rv_int rb
      obtain ⟨w, e2, q2⟩ := atI_rv q1 e
      exact ix_list value slice pins s σ H _ _ v u Q I rx ry ⟨p, us, _, w, rfl, rfl, h1, e2, k.here hr q2⟩ hs
    · cases hf
  · cases hf

def cutD (xs : List D) (lo hi : Option Int) : List D := (xs.drop (HT.sIx xs.length 0 lo)).take (HT.sIx xs.length xs.length hi - HT.sIx xs.length 0 lo)
theorem cut_rv {K : PySem.W.Frag} {mg : Str → Option Value} {m : List Addr} {H : Hp} {xs : List D} {vs : List V} (h : RVs K mg m H xs vs) (lo hi : Option Int) : RVs K mg m H (cutD xs lo hi) (cutV vs lo hi) := by
  unfold cutD cutV
  rw [← h.length]
  exact (h.drop _).take _
def sliceD (a : D) (lo hi : Option Int) : P D := fun hs => match a with
  | .tup xs => some (.tup (cutD xs lo hi), hs)
  | .str x => if x.length ≤ sizeLine then some (.str (cutS x lo hi), hs) else none
  | a => match listOf hs a with
    | some xs => newL (cutD xs lo hi) hs
    | none => none
def rSl (K : PySem.W.Frag) (mg : Str → Option Value) : V → Option Int → Option Int → Hp → VK → Prop := fun x lo hi H Q => ∃ m hs a d hs', HR K mg m hs H ∧ RV K mg m H a x ∧ sliceD a lo hi hs = some (d, hs') ∧ Bk K mg m H d hs' Q
theorem sliceD_ok {X : Cx} : SlR X (rSl X.K X.mg) := by
  intro pins s σ H x v vl vu lo hi sl Q I rx hs pl pu h
  obtain ⟨m, hh, a, d, hs', hr, ra, hf, k⟩ := h
  unfold sliceD at hf
  split at hf
  · cases hf
    obtain ⟨p, us, rfl, h1, q1⟩ := rv_tup ra
    refine sl_tupA pins s σ H _ v vl vu lo hi sl Q I rx hs pl pu ⟨p, us, rfl, h1, fun hw => ?_, fun _ p' hp => k.tup hr (cut_rv q1 lo hi) hp⟩
    refine k.here hr (mk_tup h1 ?_)
    have hl := q1.length
    rename_i xs
    have e2 : cutD xs lo hi = xs := by
      unfold cutD
      rw [hl, hw.1, hw.2]
      simp [← hl]
    rw [e2]
    exact q1
  · split at hf
    · cases hf
      obtain rfl := rv_str ra
      exact sl_str pins s σ H _ v vl vu lo hi sl Q I rx hs pl pu ⟨_, rfl, by assumption, k.here hr mk_str⟩
    · cases hf
  · split at hf
    · rename_i xs el
      cases hf
      obtain ⟨p, us, rfl, h1, q1⟩ := list_of hr ra el
      exact sl_list pins s σ H _ v vl vu lo hi sl Q I rx hs pl pu ⟨p, us, rfl, h1, fun p' hp => k.lst hr (cut_rv q1 lo hi) hp⟩
    · cases hf

/-! ## built-in calls -/
section
variable {X : Cx}
theorem rvs1 {K : PySem.W.Frag} {mg : Str → Option Value} {m : List Addr} {H : Hp} {a : D} {vs : List V} (h : RVs K mg m H [a] vs) : ∃ v, vs = [v] ∧ RV K mg m H a v := by
  obtain ⟨v, r, rfl, h1, h2⟩ := RVs.cons_iff.mp h
  rw [RVs.nil_iff] at h2; subst h2
  exact ⟨v, rfl, h1⟩
theorem rvs2 {K : PySem.W.Frag} {mg : Str → Option Value} {m : List Addr} {H : Hp} {a b : D} {vs : List V} (h : RVs K mg m H [a, b] vs) : ∃ v w, vs = [v, w] ∧ RV K mg m H a v ∧ RV K mg m H b w := by
  obtain ⟨v, r, rfl, h1, h2⟩ := RVs.cons_iff.mp h
  obtain ⟨w, rfl, h3⟩ := rvs1 h2
  exact ⟨v, w, rfl, h1, h3⟩

def lenD (ds : List D) : P D := fun hs => match ds with
  | [.tup xs] => some (.int xs.length, hs)
  | [.str x] => if x.length ≤ sizeLine then some (.int x.length, hs) else none
  | [d] => match listOf hs d with
    | some xs => some (.int xs.length, hs)
    | none => none
  | _ => none
theorem lenD_ok : CallR X (.builtin "len") (rPn X.K X.mg lenD) := by
  intro pins s σ H vs us Q I r h
  obtain ⟨m, hs, ds, d, hs', hr, rs, hf, k⟩ := h
  unfold lenD at hf
  split at hf
  · cases hf
    obtain ⟨v, rfl, r1⟩ := rvs1 rs
    obtain ⟨p, ws, rfl, h1, q1⟩ := rv_tup r1
    exact call_len_seq pins s σ H _ us Q I r ⟨p, ws, rfl, .inr h1, by rw [← q1.length]; exact k.here hr mk_int⟩
  · split at hf
    · cases hf
      obtain ⟨v, rfl, r1⟩ := rvs1 rs
      obtain rfl := rv_str r1
      exact call_len_str pins s σ H _ us Q I r ⟨_, rfl, by assumption, k.here hr mk_int⟩
    · cases hf
  · split at hf
    · rename_i xs el
      cases hf
      obtain ⟨v, rfl, r1⟩ := rvs1 rs
      obtain ⟨p, ws, rfl, h1, q1⟩ := list_of hr r1 el
      exact call_len_seq pins s σ H _ us Q I r ⟨p, ws, rfl, .inl h1, by rw [← q1.length]; exact k.here hr mk_int⟩
    · cases hf
  · cases hf
def absD (ds : List D) : P D := match ds with
  | [.int i] => P.pure (.int (if i < 0 then -i else i))
  | _ => P.stuck
theorem absD_ok : CallR X (.builtin "abs") (rPn X.K X.mg absD) := by
  intro pins s σ H vs us Q I r h
  obtain ⟨m, hs, ds, d, hs', hr, rs, hf, k⟩ := h
  unfold absD at hf
  split at hf
  · cases hf
    obtain ⟨v, rfl, r1⟩ := rvs1 rs
    obtain rfl := rv_int r1
    exact call_abs pins s σ H _ us Q I r ⟨_, rfl, k.here hr mk_int⟩
  · cases hf
def intsD : List D → Option (List Int)
  | [] => some []
  | .int i :: ds => (intsD ds).map (i :: ·)
  | _ :: _ => none
theorem intsD_rv {K : PySem.W.Frag} {mg : Str → Option Value} {m : List Addr} {H : Hp} : ∀ {ds : List D} {ns : List Int} {vs : List V}, intsD ds = some ns → RVs K mg m H ds vs → vs = ns.map .int
  | [], _, _, h, r => by cases h; rw [RVs.nil_iff] at r; subst r; rfl
  | d :: ds, _, _, h, r => by
    obtain ⟨v, w, rfl, r1, r2⟩ := RVs.cons_iff.mp r
    cases d <;> simp only [intsD] at h <;> try cases h
    obtain ⟨ns, e, rfl⟩ := Option.map_eq_some_iff.mp h
    obtain rfl := rv_int r1
    rw [intsD_rv e r2]
    rfl
def topI : List Int → Int
  | [] => 0
  | [n] => n
  | n :: r => if topI r > n then topI r else n
theorem topI_ok : ∀ {ns : List Int} {m : Int}, m ∈ ns → (∀ y ∈ ns, y ≤ m) → m = topI ns
  | [n], m, h, _ => by simpa [topI] using h
  | n :: a :: r, m, h, k => by
    have ih := topI_ok (ns := a :: r) (m := m)
    show m = if topI (a :: r) > n then topI (a :: r) else n
    have top : topI (a :: r) ∈ a :: r := by
      clear h k ih
      induction r generalizing a with
      | nil => simp [topI]
      | cons b r ih =>
        show (if topI (b :: r) > a then topI (b :: r) else a) ∈ _
        split
        · exact List.mem_cons_of_mem _ (ih b)
        · exact List.mem_cons_self
    rcases List.mem_cons.mp h with rfl | h
    · have := k _ (List.mem_cons_of_mem _ top)
      rw [if_neg (by omega)]
    · have e := ih h fun y hy => k y (List.mem_cons_of_mem _ hy)
      have := k n List.mem_cons_self
      split <;> omega
def lowI : List Int → Int
  | [] => 0
  | [n] => n
  | n :: r => if lowI r < n then lowI r else n
theorem lowI_ok : ∀ {ns : List Int} {m : Int}, m ∈ ns → (∀ y ∈ ns, m ≤ y) → m = lowI ns
  | [n], m, h, _ => by simpa [lowI] using h
  | n :: a :: r, m, h, k => by
    have ih := lowI_ok (ns := a :: r) (m := m)
    show m = if lowI (a :: r) < n then lowI (a :: r) else n
    have low : lowI (a :: r) ∈ a :: r := by
      clear h k ih
      induction r generalizing a with
      | nil => simp [lowI]
      | cons b r ih =>
        show (if lowI (b :: r) < a then lowI (b :: r) else a) ∈ _
        split
        · exact List.mem_cons_of_mem _ (ih b)
        · exact List.mem_cons_self
    rcases List.mem_cons.mp h with rfl | h
    · have := k _ (List.mem_cons_of_mem _ low)
      rw [if_neg (by omega)]
    · have e := ih h fun y hy => k y (List.mem_cons_of_mem _ hy)
      have := k n List.mem_cons_self
      split <;> omega
def ofInts (f : List Int → Int) (hs : Hs) (d : D) : Option (D × Hs) := match listOf hs d with
  | some xs => match intsD xs with
    | some (n :: ns) => some (.int (f (n :: ns)), hs)
    | _ => none
  | none => none
theorem ofInts_ok {K : PySem.W.Frag} {mg : Str → Option Value} {m : List Addr} {H : Hp} {hs hs' : Hs} {f : List Int → Int} {d a : D} {v : V} (h : ofInts f hs a = some (d, hs')) (hr : HR K mg m hs H) (r : RV K mg m H a v) :
    ∃ p n ns, v = .ref p ∧ SqL K H p ((n :: ns).map V.int) ∧ d = .int (f (n :: ns)) ∧ hs' = hs := by
  unfold ofInts at h
  split at h
  · rename_i xs el
    obtain ⟨p, ws, rfl, h1, q1⟩ := list_of hr r el
    split at h
    · rename_i n ns ei
      cases h
      obtain rfl := intsD_rv ei q1
      exact ⟨p, n, ns, rfl, h1, rfl, rfl⟩
    · cases h
  · cases h
def maxD (ds : List D) : P D := fun hs => match ds with
  | [.int i, .int j] => some (.int (if j > i then j else i), hs)
  | [d] => ofInts topI hs d
  | _ => none
theorem maxD_ok (hc : X.calm = true) : CallR X (.builtin "max") (rPn X.K X.mg maxD) := by
  intro pins s σ H vs us Q I r h
  obtain ⟨m, hs, ds, d, hs', hr, rs, hf, k⟩ := h
  unfold maxD at hf
  split at hf
  · cases hf
    obtain ⟨v, w, rfl, r1, r2⟩ := rvs2 rs
    obtain rfl := rv_int r1
    obtain rfl := rv_int r2
    exact call_max2 hc pins s σ H _ us Q I r ⟨_, _, rfl, k.here hr mk_int⟩
  · obtain ⟨v, rfl, r1⟩ := rvs1 rs
    obtain ⟨p, n, ns, rfl, h1, rfl, rfl⟩ := ofInts_ok hf hr r1
    exact cr_max hc pins s σ H _ us Q I r ⟨p, n :: ns, rfl, h1, by simp, fun m hm ht => by rw [topI_ok hm ht]; exact k.here hr mk_int⟩
  · cases hf
def minD (ds : List D) : P D := fun hs => match ds with
  | [.int i, .int j] => some (.int (if j < i then j else i), hs)
  | [d] => ofInts lowI hs d
  | _ => none
theorem minD_ok (hc : X.calm = true) : CallR X (.builtin "min") (rPn X.K X.mg minD) := by
  intro pins s σ H vs us Q I r h
  obtain ⟨m, hs, ds, d, hs', hr, rs, hf, k⟩ := h
  unfold minD at hf
  split at hf
  · cases hf
    obtain ⟨v, w, rfl, r1, r2⟩ := rvs2 rs
    obtain rfl := rv_int r1
    obtain rfl := rv_int r2
    exact call_min2 hc pins s σ H _ us Q I r ⟨_, _, rfl, k.here hr mk_int⟩
  · obtain ⟨v, rfl, r1⟩ := rvs1 rs
    obtain ⟨p, n, ns, rfl, h1, rfl, rfl⟩ := ofInts_ok hf hr r1
    exact cr_min hc pins s σ H _ us Q I r ⟨p, n :: ns, rfl, h1, by simp, fun m hm ht => by rw [lowI_ok hm ht]; exact k.here hr mk_int⟩
  · cases hf
def intTxt (x : Str) : Option Int := if x.length ≤ 640 then PySem.intText? x else none
def intD (ds : List D) : P D := match ds with
  | [.int i] => P.pure (.int i)
  | [.bl b] => P.pure (.int (if b then 1 else 0))
  | [.str x] => fun hs => (intTxt x).map fun n => (.int n, hs)
  | _ => P.stuck
theorem intD_ok : CallR X (.type "int") (rPn X.K X.mg intD) := by
  intro pins s σ H vs us Q I r h
  obtain ⟨m, hs, ds, d, hs', hr, rs, hf, k⟩ := h
  unfold intD at hf
  split at hf
  · cases hf
    obtain ⟨v, rfl, r1⟩ := rvs1 rs
    obtain rfl := rv_int r1
    exact call_int1 pins s σ H _ us Q I r (.inl ⟨_, rfl, k.here hr mk_int⟩)
  · cases hf
    obtain ⟨v, rfl, r1⟩ := rvs1 rs
    obtain rfl := rv_bl r1
    exact call_int1 pins s σ H _ us Q I r (.inr ⟨_, rfl, k.here hr mk_int⟩)
  · obtain ⟨n, en, e2⟩ := Option.map_eq_some_iff.mp hf
    cases e2
    unfold intTxt at en
    split at en
    · obtain ⟨v, rfl, r1⟩ := rvs1 rs
      obtain rfl := rv_str r1
      exact call_int_str pins s σ H _ us Q I r ⟨_, _, rfl, en, by assumption, k.here hr mk_int⟩
    · cases en
  · cases hf
def strD (ds : List D) : P D := match ds with
  | [.int i] => if i.natAbs.log2 < 1920 then P.pure (.str (toString i)) else P.stuck
  | _ => P.stuck
theorem strD_ok : CallR X (.type "str") (rPn X.K X.mg strD) := by
  intro pins s σ H vs us Q I r h
  obtain ⟨m, hs, ds, d, hs', hr, rs, hf, k⟩ := h
  unfold strD at hf
  split at hf
  · split at hf
    · cases hf
      obtain ⟨v, rfl, r1⟩ := rvs1 rs
      obtain rfl := rv_int r1
      exact call_str_int pins s σ H _ us Q I r ⟨_, rfl, by assumption, k.here hr mk_str⟩
    · exact (stuck_no hf).elim
  · cases hf
def tupleD (ds : List D) : P D := fun hs => match ds with
  | [.tup xs] => some (.tup xs, hs)
  | [d] => match listOf hs d with
    | some xs => some (.tup xs, hs)
    | none => none
  | _ => none
theorem tupleD_ok : CallR X (.type "tuple") (rPn X.K X.mg tupleD) := by
  intro pins s σ H vs us Q I r h
  obtain ⟨m, hs, ds, d, hs', hr, rs, hf, k⟩ := h
  unfold tupleD at hf
  split at hf
  · cases hf
    obtain ⟨v, rfl, r1⟩ := rvs1 rs
    obtain ⟨p, ws, rfl, h1, q1⟩ := rv_tup r1
    exact call_tuple_of pins s σ H _ us Q I r ⟨p, ws, rfl, .inr ⟨h1, k.here hr r1⟩⟩
  · split at hf
    · rename_i xs el
      cases hf
      obtain ⟨v, rfl, r1⟩ := rvs1 rs
      obtain ⟨p, ws, rfl, h1, q1⟩ := list_of hr r1 el
      exact call_tuple_of pins s σ H _ us Q I r ⟨p, ws, rfl, .inl ⟨h1, fun l hl => k.tup hr q1 hl⟩⟩
    · cases hf
  · cases hf
def listD (ds : List D) : P D := fun hs => match ds with
  | [.tup xs] => newL xs hs
  | [d] => match listOf hs d with
    | some xs => newL xs hs
    | none => none
  | _ => none
theorem listD_ok : CallR X (.type "list") (rPn X.K X.mg listD) := by
  intro pins s σ H vs us Q I r h
  obtain ⟨m, hs, ds, d, hs', hr, rs, hf, k⟩ := h
  unfold listD at hf
  split at hf
  · cases hf
    obtain ⟨v, rfl, r1⟩ := rvs1 rs
    obtain ⟨p, ws, rfl, h1, q1⟩ := rv_tup r1
    exact call_list_of pins s σ H _ us Q I r ⟨p, ws, rfl, .inr h1, fun l hl => k.lst hr q1 hl⟩
  · split at hf
    · rename_i xs el
      cases hf
      obtain ⟨v, rfl, r1⟩ := rvs1 rs
      obtain ⟨p, ws, rfl, h1, q1⟩ := list_of hr r1 el
      exact call_list_of pins s σ H _ us Q I r ⟨p, ws, rfl, .inl h1, fun l hl => k.lst hr q1 hl⟩
    · cases hf
  · cases hf
/-- a list of flags -/
def flags : List D → Option (List Bool)
  | [] => some []
  | .bl b :: ds => (flags ds).map (b :: ·)
  | _ :: _ => none
theorem flags_rv {K : PySem.W.Frag} {mg : Str → Option Value} {m : List Addr} {H : Hp} : ∀ {ds : List D} {bs : List Bool} {vs : List V}, flags ds = some bs → RVs K mg m H ds vs → vs = bs.map V.bl
  | [], _, _, h, r => by cases h; rw [RVs.nil_iff] at r; subst r; rfl
  | d :: ds, _, _, h, r => by
    obtain ⟨v, w, rfl, r1, r2⟩ := RVs.cons_iff.mp r
    cases d <;> simp only [flags] at h <;> try cases h
    obtain ⟨bs, e, rfl⟩ := Option.map_eq_some_iff.mp h
    obtain rfl := rv_bl r1
    rw [flags_rv e r2]
    rfl
def allD (ds : List D) : P D := fun hs => match ds with
  | [d] => match listOf hs d with
    | some xs => (flags xs).map fun bs => (.bl (bs.all id), hs)
    | none => none
  | _ => none
theorem allD_ok (hc : X.calm = true) : CallR X (.builtin "all") (rPn X.K X.mg allD) := by
  intro pins s σ H vs us Q I r h
  obtain ⟨m, hs, ds, d, hs', hr, rs, hf, k⟩ := h
  unfold allD at hf
  split at hf
  · split at hf
    · rename_i xs el
      obtain ⟨bs, eb, hz⟩ := Option.map_eq_some_iff.mp hf
      cases hz
      obtain ⟨v, rfl, r1⟩ := rvs1 rs
      obtain ⟨p, ws, rfl, h1, q1⟩ := list_of hr r1 el
      obtain rfl := flags_rv eb q1
      exact cr_all hc pins s σ H _ us Q I r ⟨p, bs, rfl, h1, k.here hr mk_bl⟩
    · cases hf
  · cases hf
def anyD (ds : List D) : P D := fun hs => match ds with
  | [d] => match listOf hs d with
    | some xs => (flags xs).map fun bs => (.bl (bs.any id), hs)
    | none => none
  | _ => none
theorem anyD_ok (hc : X.calm = true) : CallR X (.builtin "any") (rPn X.K X.mg anyD) := by
  intro pins s σ H vs us Q I r h
  obtain ⟨m, hs, ds, d, hs', hr, rs, hf, k⟩ := h
  unfold anyD at hf
  split at hf
  · split at hf
    · rename_i xs el
      obtain ⟨bs, eb, hz⟩ := Option.map_eq_some_iff.mp hf
      cases hz
      obtain ⟨v, rfl, r1⟩ := rvs1 rs
      obtain ⟨p, ws, rfl, h1, q1⟩ := list_of hr r1 el
      obtain rfl := flags_rv eb q1
      exact cr_any hc pins s σ H _ us Q I r ⟨p, bs, rfl, h1, k.here hr mk_bl⟩
    · cases hf
  · cases hf
/-! isinstance: one built-in class, or a tuple of such -/
def tyD (hs : Hs) : D → Option String
  | .non => some "NoneType"
  | .bl _ => some "bool"
  | .int _ => some "int"
  | .str _ => some "str"
  | .tup _ => some "tuple"
  | .frl _ => some "list"
  | .loc n => match hs[n]? with
    | some (.lst _) => some "list"
    | some (.dct _) => some "dict"
    | _ => none
  | _ => none
theorem tyD_ok {K : PySem.W.Frag} {mg : Str → Option Value} {m : List Addr} {H : Hp} {hs : Hs} {d : D} {v : V} {T : String} (hr : HR K mg m hs H) (r : RV K mg m H d v) (h : tyD hs d = some T) : TyX K H v (.type T) := by
  cases d with
  | non => cases h; obtain rfl := rv_non r; exact .base .non
  | bl b => cases h; obtain rfl := rv_bl r; exact .base (.bl b)
  | int i => cases h; obtain rfl := rv_int r; exact .base (.int i)
  | str x => cases h; obtain rfl := rv_str r; exact .base (.str x)
  | tup xs =>
    cases h
    obtain ⟨a, vs, rfl, h1, h2⟩ := rv_tup r
    rcases h1 with (h1 | ⟨o, h1⟩) | ⟨o, its, n, h1, h3, _⟩
    · exact .base (.tup h1)
    · exact .fTuple h1
    · exact .kTuple h1 h3
  | frl xs =>
    cases h
    obtain ⟨a, vs, rfl, h1, h2⟩ := rv_frl r
    rcases h1 with ⟨o, h1⟩ | ⟨o, its, n, h1, h3, _⟩
    · exact .base (.frz h1)
    · exact .kList h1 h3
  | loc n =>
    obtain ⟨a, rfl, hm⟩ := rv_loc r
    simp only [tyD] at h
    split at h
    · rename_i xs e
      cases h
      obtain ⟨vs, h1, h2⟩ := hr.lst_at hm e
      exact .base (.lst h1)
    · rename_i kvs e
      cases h
      obtain ⟨o, ho, ro⟩ := hr.at' hm
      rw [e] at ho
      cases ho
      obtain ⟨ks, h1, _⟩ := ro
      exact .base (.dK h1)
    · cases h
  | glo _ => cases h
  | exv => cases h
  | ty _ => cases h
/-- one of some built-in types -/
def kitBs (T : String) : List D → Option Bool
  | [] => some false
  | .ty n :: r => (match kitB T n, kitBs T r with
    | some a, some b => some (a || b)
    | _, _ => none)
  | _ :: _ => none
theorem kitBs_ok {K : PySem.W.Frag} {mg : Str → Option Value} {m : List Addr} {H : Hp} {T : String} : ∀ {ds : List D} {vs : List V} {b : Bool}, kitBs T ds = some b → RVs K mg m H ds vs → ∃ us, Paired ClsV vs us ∧ PySem.W.kitAny K (.type T) us = some b
  | [], vs, b, h, r => by
    rw [RVs.nil_iff] at r; subst r
    exact ⟨[], .nil, h⟩
  | d :: ds, vs, b, h, r => by
    obtain ⟨v, r', rfl, r1, r2⟩ := RVs.cons_iff.mp r
    unfold kitBs at h
    split at h
    · rename_i e; cases e
    · rename_i n r3 e
      cases e
      obtain rfl := rv_ty r1
      split at h
      · rename_i a b' q q'
        cases h
        obtain ⟨us, p1, p2⟩ := kitBs_ok q' r2
        refine ⟨_ :: us, .cons (.ty _) p1, ?_⟩
        unfold PySem.W.kitAny
        rw [kit_ty q]
        cases a
        · simpa using p2
        · rfl
      · cases h
    · cases h
theorem isi_tupZ {pins : List (Addr × Obj)} {s : Shared} {σ : L2.St} {H : Hp} {x t : Value} {tp : Addr} {cs : List V} {ws us : List Value} {b : Bool} {Q : VK} {PP : Heap → Prop} (I : Inv X pins σ H s) (g : Vals [.ref tp] us) (hT : SqT X.K H tp cs) (k : Paired ClsV cs ws) (Z : PySem.W.KitX X.K x t PP) (p : PP s.heap) (hx : x ≠ .builtin "__main__.__loader__#opaque")
    (e : PySem.W.kitAny X.K t ws = some b) (q : Q (.bl b) H) : wpAny (model X.prog X.w) X.A (call (.builtin "isinstance") (x :: us)) (EP X pins σ Q) X.xe s := by
  cases g with
  | @cons _ u2 _ _ r2 rn =>
  cases rn
  cases (show u2 = Value.ref tp from r2)
  rcases hT with (hT | ⟨ob, hT⟩) | ⟨o, its, n, hl, h1, h2, h3, h4⟩
  · obtain ⟨_, its, rv, o, h1, h2, n, h3⟩ := (show ObjOk X.prog X.w H s.heap tp (.tup cs) from I.hok tp _ hT)
    have e3 := ClsV.all k rv
    subst e3
    obtain ⟨oc, od, dt, sl⟩ := o
    simp only at h2 h3
    subst h2 h3
    exact PySem.W.kia_tup Z I.kIn p h1 e hx fun tk => ⟨.bl b, H, I.tok tk, rfl, q⟩
  · obtain ⟨_, its, rv, o, h1, h2, n, h3⟩ := (show ObjOk X.prog X.w H s.heap tp (.tup cs) from (I.hok tp _ hT).2)
    have e3 := ClsV.all k rv
    subst e3
    obtain ⟨oc, od, dt, sl⟩ := o
    simp only at h2 h3
    subst h2 h3
    exact PySem.W.kia_tup Z I.kIn p h1 e hx fun tk => ⟨.bl b, H, I.tok tk, rfl, q⟩
  · have e3 := ClsV.all k h4
    subst e3
    obtain ⟨oc, od, dt, sl⟩ := o
    simp only at h1 h2
    subst h1 h2
    exact PySem.W.kia_tup Z I.kIn p (I.kIn _ _ hl) e hx fun tk => ⟨.bl b, H, I.tok tk, rfl, q⟩
theorem isi_tup {pins : List (Addr × Obj)} {s : Shared} {σ : L2.St} {H : Hp} {x : V} {tp : Addr} {cs : List V} {t : Value} {ws us : List Value} {b : Bool} {Q : VK} (I : Inv X pins σ H s) (r : Vals [x, .ref tp] us) (hT : SqT X.K H tp cs) (k : Paired ClsV cs ws) (ty : TyX X.K H x t) (e : PySem.W.kitAny X.K t ws = some b) (q : Q (.bl b) H) :
    wpAny (model X.prog X.w) X.A (call (.builtin "isinstance") us) (EP X pins σ Q) X.xe s := by
  cases r with
  | @cons _ u1 _ _ r1 r2 =>
  obtain ⟨P, Z, p, hx⟩ := kit_of I r1 ty
  exact isi_tupZ I r2 hT k Z p hx e q
def isiD (ds : List D) : P D := fun hs => match ds with
  | [x, .ty n] => match tyD hs x with
    | some T => (kitB T n).map fun c => (.bl c, hs)
    | none => none
  | [x, .tup cs] => match tyD hs x with
    | some T => (kitBs T cs).map fun c => (.bl c, hs)
    | none => none
  | _ => none
theorem isiD_ok : CallR X (.builtin "isinstance") (rPn X.K X.mg isiD) := by
  intro pins s σ H vs us Q I r h
  obtain ⟨m, hs, ds, d, hs', hr, rs, hf, k⟩ := h
  unfold isiD at hf
  split at hf
  · split at hf
    · rename_i T e
      obtain ⟨c, ec, hz⟩ := Option.map_eq_some_iff.mp hf
      cases hz
      obtain ⟨v, w, rfl, r1, r2⟩ := rvs2 rs
      obtain rfl := rv_ty r2
      exact call_isi pins s σ H _ us Q I r ⟨v, _, _, _, c, rfl, .ty _, tyD_ok hr r1 e, kit_ty ec, k.here hr mk_bl⟩
    · cases hf
  · split at hf
    · rename_i T e
      obtain ⟨c, ec, hz⟩ := Option.map_eq_some_iff.mp hf
      cases hz
      obtain ⟨v, w, rfl, r1, r2⟩ := rvs2 rs
      obtain ⟨tp, cs, rfl, hT, r3⟩ := rv_tup r2
      obtain ⟨ws, p1, p2⟩ := kitBs_ok (K := X.K) ec r3
      exact isi_tup I r hT p1 (tyD_ok hr r1 e) p2 (k.here hr mk_bl)
    · cases hf
  · cases hf
end
end DL
set_option Elab.async false
set_option linter.all false
set_option maxRecDepth 100000
set_option maxHeartbeats 4000000
namespace DL
open PySem PySem.Spec PyProof.Rows L2

/-! ## a def's promise where no repr is under way -/
structure FnG (P : Program) (w : World) (K : PySem.W.Frag) (mg : Str → Option Value) (base : Heap) (CX : CXT) (k : Nat) (f : Addr) (fd : FuncData) (ps : List Str) (sp : Sp) : Prop where
  many : ∀ vs H Q E, sp vs H Q E → vs.length = ps.length
  go : ∀ {A : Around} {outer : List Env} {s : Shared} {H : Hp} {args : Args} {us : List Value} {vs : List V} {Q : VK} {E : XK}, A.guards = some [] → Room k A → Env0 P w K mg base A outer s H → BindsTo s fd args (ps.zip us) → Vals vs us →
    sp vs H Q E → codeAny (model P w) A (.call (.ref f) args) (CR CX outer P w H s Q E) s
section
variable {P : Program} {w : World} {K : PySem.W.Frag} {mg : Str → Option Value} {base : Heap} {CX : CXT} {f : Addr} {fd : FuncData} {ps : List Str} {sp sp' : Sp} {j k : Nat}
theorem FnG.up (F : FnG P w K mg base CX j f fd ps sp) (h : j ≤ k) : FnG P w K mg base CX k f fd ps sp where
  many := F.many
  go := fun g r => F.go g (r.mono h)
theorem FnG.weak (F : FnG P w K mg base CX k f fd ps sp) (h : ∀ vs H Q E, sp' vs H Q E → sp vs H Q E) : FnG P w K mg base CX k f fd ps sp' where
  many := fun vs H Q E q => F.many vs H Q E (h vs H Q E q)
  go := fun g r e b v q => F.go g r e b v (h _ _ _ _ q)
/-- a def by its body -/
theorem fnG_of {x qual : Str} {st : Stmt} {N : List Str} (F : Fun K x qual st f fd) (S : FnScope N ps (defScope st)) (many : ∀ vs H Q E, sp vs H Q E → vs.length = ps.length)
    (body : ∀ (cdv : Value) (A : Around) (outer : List Env) (s : Shared) (H : Hp) (vs : List V) (Q : VK) (E : XK), A.guards = some [] → Room k (A.deeper (envOfC qual (defScope st) s.heap.objs.size f cdv)) → sp vs H Q E →
      ∃ t, PSs (cxOf CX P w K mg base N qual (defScope st) f cdv A outer s H E) (defBody st) t ∧ t { nx := fun _ H' => Q .non H', rt := Q } (L2.start N vs) H) : FnG P w K mg base CX (k + 1) f fd ps sp := by
  obtain ⟨_, _, _, _, _, _, cdv, _, _, rfl, looked, coded⟩ := F.ex
  refine ⟨many, ?_⟩
  intro A outer s H args us vs Q E gd room env binds vals wish
  have kept := fun b o (e : base.get? b = some o) => (env.bs b o e).1
  have KX : K.In s.heap := env.mod.kin.keeps kept
  have kinds : ∀ y ∈ ps.zip us, (defScope st).names.lookup y.1 = some .local ∨ ((defScope st).names.lookup y.1 = some .cell ∧ ((cellsFrom (s.heap.objs.size + 1) (defScope st).names []).lookup y.1).isSome = true) := by
    rintro ⟨n, v⟩ hy
    exact (S.par n (List.of_mem_zip hy).1).imp id fun q => ⟨q, PySem.W.cellsFrom_some _ _ _ (.inl q)⟩
  refine codeAny_call_function room.depth (KX _ _ looked) rfl S.co S.gen rfl (PySem.W.codeRec_of KX coded) (binds _ _ _ _ (wpAny_newFunctionEnv_cells S.kind kinds fun e he s1 ic => ?_))
  cases he
  refine ⟨(env.mod.nolimit.keeps kept).keeps ic.toInCall.keep, codeAny_func ?_⟩
  obtain ⟨t, ht, hq⟩ := body cdv A outer s H vs Q E gd (room.deeper _) wish
  have I0 := inv_start (CX := CX) (E := E) S room.hd env (many _ _ _ _ wish) vals ic
  refine wpAny_mono (ht.run [] s1 _ H _ I0 hq) (fun fl s2 end_ => ?_) fun _ _ raised => raised
  cases fl with
  | brk => obtain ⟨_, _, _, no⟩ := end_; exact no.elim
  | cont => obtain ⟨_, _, _, no⟩ := end_; exact no.elim
  | next => obtain ⟨_, H2, J, q⟩ := end_; exact ⟨.non, H2, J.os, J.bare, J.base, J.hok, rfl, q⟩
  | ret u => obtain ⟨v, _, H2, J, rv, q⟩ := end_; exact ⟨v, H2, J.os, J.bare, J.base, J.hok, rv, q⟩
end
section
variable {X : Cx} {CX : CXT} {k : Nat} {f : Addr} {fd : FuncData} {ps : List Str} {sp : Sp} {E : L2.St → XK} {σ : L2.St}
theorem runG {pins : List (Addr × Obj)} {H : Hp} {s : Shared} {Q : VK} {us : List Value} {vs : List V} (F : FnG X.prog X.w X.K X.mg X.base CX k f fd ps sp) (gd : X.A.guards = some []) (room : Room k X.A) (binds : Binds X.K fd ps []) (pass : PassesAt CX X σ (E σ))
    (I : Inv X pins σ H s) (r : Vals vs us) (wish : sp vs H Q (E σ)) : wpAny (model X.prog X.w) X.A (call (.ref f) us) (EP X pins σ Q) X.xe s := by
  have bound := binds s us I.kIn (by rw [List.append_nil, ← r.length]; exact F.many _ _ _ _ wish)
  rw [List.append_nil] at bound
  refine wpAny_call (codeAny_mono (F.go gd room I.env0 bound r wish) ?_)
  intro res s2 told
  match res, told with
  | .error e, told => exact pass pins H s e s2 I told
  | .ok (.ret u), told => exact I.after told
  | .ok .next, told => exact told.elim
  | .ok .brk, told => exact told.elim
  | .ok .cont, told => exact told.elim
end
/-! ## the law's call -/
theorem hidden {H : Hp} {h : Heap} {b : Addr} {o : Obj} (e : h.get? b = some o) (n : H b = none) : (hidT h H).get? b = some o := hidT_get e n
theorem callG {P : Program} {w : World} {K : PySem.W.Frag} {mg mb : Str → Option Value} {CX : CXT} {k : Nat} {fa a : Addr} {fd : FuncData} {x : Str} {sp : Sp} {s : Shared} {vs : List Value} {ns : List Int}
    (KX : K.In s.heap) (hm : s.heap.Ns mainGlobals mg) (hb : s.heap.Ns builtinsNs mb) (boot : ∀ x : Str, x ≠ "__name__" → mb x = bootBuiltins x) (lim : s.heap.NoLimit) (gens : s.gens = #[])
    (obj : s.heap.get? a = some { cls := .type "list", data := .seq vs.toArray }) (ints_ : IntsAre vs ns) (short : ns.length ≤ sizeLine) (room : Room k callerA)
    (F : ∀ base : Heap, K.In base → base.Ns mainGlobals mg → FnG P w K mg base CX k fa fd [x] sp) (binds : ∀ (s : Shared) (u : Value), BindsTo s fd ⟨[u], []⟩ [(x, u)])
    (wish : ∀ H : Hp, Only H → SqL K H a (ns.map V.int) → sp [.ref a] H (fun v _ => v = .bl true) fun _ _ _ => False) (none_ : ∀ H e s', CX [] H s (fun _ _ _ => False) e s' → False) :
    codeAny (model P w) callerA (.call (.ref fa) ⟨[.ref a], []⟩) (fun r s' => r = .ok (.ret (.bool true)) ∧ OldK s.heap s'.heap ∧ s'.os = s.os ∧ AllBare s'.gens) s := by
  have vals := vals_ints ints_
  have many := ints_.length
  suffices main : ∀ H : Hp, Only H → SqL K H a (ns.map V.int) → HOk P w H s.heap → (∀ b, H b ≠ none → b = a ∧ K.lookup a = none) →
      codeAny (model P w) callerA (.call (.ref fa) ⟨[.ref a], []⟩) (fun r s' => r = .ok (.ret (.bool true)) ∧ OldK s.heap s'.heap ∧ s'.os = s.os ∧ AllBare s'.gens) s by
    cases known : K.lookup a with
    | some o =>
      have e := KX a o known
      rw [obj] at e
      cases e
      exact main (fun _ => none) (fun _ => .inl rfl) (.inr ⟨_, _, _, known, rfl, rfl, rfl, by rw [List.size_toArray, many]; exact short, by simpa using vals⟩) (fun _ _ z => nomatch (show (none : Option HO) = some _ from z)) fun _ z => (z rfl).elim
    | none =>
      let T : Hp := fun b => if b = a then some (HO.frz { cls := .type "list", data := .seq vs.toArray } (.lst (ns.map V.int))) else none
      have itself : T a = some (.frz { cls := .type "list", data := .seq vs.toArray } (.lst (ns.map V.int))) := if_pos rfl
      refine main T (fun b => ?_) (.inl (.inr ⟨_, itself⟩)) (fun b u z => ?_) fun b z => ?_
      · by_cases q : b = a
        · subst q; exact .inr ⟨_, _, itself⟩
        · exact .inl (if_neg q)
      · by_cases q : b = a
        · subst q
          obtain rfl := Option.some.inj (itself.symm.trans z)
          exact ⟨obj, by rw [List.length_map]; exact short, vs, _, vals, obj⟩
        · exact nomatch ((if_neg q).symm.trans z : (none : Option HO) = some u)
      · by_cases q : b = a
        · exact ⟨q, known⟩
        · exact (z (if_neg q)).elim
  intro H only seq hok alone
  have free : ∀ {b : Addr} {o : Obj}, s.heap.get? b = some o → (b = a → K.lookup a = none → False) → H b = none := fun {b o} e no => by
    cases q : H b with
    | none => rfl
    | some u =>
      obtain ⟨e1, e2⟩ := alone b (by rw [q]; exact fun z => nomatch z)
      exact (no e1 e2).elim
  have space : ∀ {b : Addr} {m : Str → Option Value}, s.heap.Ns b m → (hidT s.heap H).Ns b m := fun {b m} ⟨o, es, ep, e, d, r⟩ => by
    refine ⟨o, es, ep, hidden e (free e fun q _ => ?_), d, r⟩
    subst q
    rw [obj] at e
    obtain rfl := Option.some.inj e
    exact nomatch d
  have kin : K.In (hidT s.heap H) := fun b o e => hidden (KX b o e) (free (KX b o e) fun q z => by
    subst q
    rw [z] at e
    cases e)
  have mod : Mod K mg (hidT s.heap H) := ⟨kin, space hm, ⟨mb, space hb, boot⟩, lim.imp fun mc q => ⟨space q.1, q.2⟩⟩
  have env : Env0 P w K mg (hidT s.heap H) callerA [] s H := ⟨rfl, mod, fun _ _ e => of_hidT e, Nat.le_of_eq (hidT_size _ _), trivial, (fun _ z => absurd (show _ ∈ ([] : List Addr) from z) (by simp)), hok, .of_eq gens⟩
  refine codeAny_mono ((F _ kin (space hm)).go (us := [.ref a]) rfl room env (binds s (.ref a)) (Paired.cons (show RelV (V.ref a) (Value.ref a) from rfl) .nil) (wish H only seq)) ?_
  intro res s2 told
  match res, told with
  | .error e, told => exact (none_ H e s2 told).elim
  | .ok .next, told => exact told.elim
  | .ok .brk, told => exact told.elim
  | .ok .cont, told => exact told.elim
  | .ok (.ret u), told =>
    obtain ⟨v, H2, os, bare, un, hok2, rv, q⟩ := told
    have q : v = .bl true := q
    subst q
    obtain rfl : u = Value.bool true := rv
    refine ⟨rfl, OldK.of_keep fun b o e => ?_, os, bare⟩
    rcases only b with z | ⟨ob, xs, z⟩
    · exact un.keep b o e z (fun y => absurd (show _ ∈ ([] : List Addr) from y) (by simp)) (by simp)
    · have here := (hok b _ z).1
      rw [e] at here
      obtain rfl := Option.some.inj here
      exact (hok2 b _ (un.frzs b _ _ z)).1
end DL
set_option Elab.async false
set_option linter.all false
set_option maxRecDepth 100000
set_option maxHeartbeats 4000000
namespace DL
open PySem PySem.Spec PyProof.Rows L2
open AutoSeq1 (wpAny_loadPart')

/-! ## enumerate of a tuple -/
theorem enum_new_any {v : Value} {o : Obj} {H : Heap → Prop} (B : Begins v o H) :
    Meets (Builtin.«enumerate.__new__» ⟨[.type "enumerate", v], []⟩) (fun _ R s => H s.heap ∧
      R (.ok (.ret (.ref (s.heap.push o).objs.size))) { s with heap := (s.heap.push o).push { cls := .type "enumerate", data := .fields #[.none, .bool false, .ref s.heap.objs.size, rawInt 0, .none, .none] } }) :=
  .of_wp fun prog w A R s ⟨h1, h⟩ => by
    obtain ⟨hp, g, d, tk, os⟩ := s
    have sub := sub_enumerate
    have it : ∀ {A' : Around} {E : Value → Shared → Prop} {Q : Value → Shared → Prop}, Q (.ref hp.objs.size) ⟨hp.push o, g, d, tk, os⟩ → wpAny (model prog w) A' (pyIter v) Q E ⟨hp, g, d, tk, os⟩ := fun q => B.iter prog w _ _ ⟨hp, g, d, tk, os⟩ _ h1 q
    wp_walk using it
    refine wpAny_stack_any fun st => wpAny_pure ?_
    split
    · rename_i c _ _ _ _ _
      cases (c == Value.type "enumerate") <;> (wp_walk using it; exact ⟨_, rfl, h⟩)
    · wp_walk using it
      exact ⟨_, rfl, h⟩
theorem enum_call {prog : Program} {w : World} {A : Around} {E : Value → Shared → Prop} {s : Shared} {v : Value} {o : Obj} {H : Heap → Prop} {Q : Value → Shared → Prop} (B : Begins v o H) (h1 : H s.heap)
    (h : ∀ h', IsEnum h' (s.heap.objs.size + 1) s.heap.objs.size 0 .none → h'.get? s.heap.objs.size = some o → (∀ b u, s.heap.get? b = some u → h'.get? b = some u) → Q (.ref (s.heap.objs.size + 1)) { s with heap := h' }) :
    wpAny (model prog w) A (call (.type "enumerate") [v]) Q E s := by
  have new := enum_new_any B
  have size : (s.heap.push o).objs.size = s.heap.objs.size + 1 := Heap.size_push ..
  refine callType_new F.called_enumerate (by decide) (F.typeCall_enumerate_1 _) (F.newCall_enumerate_1 _) (fun x => F.args_object_init_2 x _) F.entry_enumerate_new new ⟨h1, ?_⟩
  show _ ∧ _
  rw [size]
  have made : IsEnum ((s.heap.push o).push { cls := .type "enumerate", data := .fields #[.none, .bool false, .ref s.heap.objs.size, rawInt 0, .none, .none] }) (s.heap.objs.size + 1) s.heap.objs.size 0 .none := by
    have q := Heap.get?_push_size (s.heap.push o) (o := { cls := .type "enumerate", data := .fields #[.none, .bool false, .ref s.heap.objs.size, rawInt 0, .none, .none] }) rfl
    rw [size] at q
    exact q
  exact ⟨⟨_, made, rfl⟩, h _ made (Heap.get?_push_of_some _ (Heap.get?_push_size _ B.free)) fun b u x => Heap.get?_push_of_some _ (Heap.get?_push_of_some _ x)⟩
/-- the tuple at a, each item in a new pair -/
def IteT (K : PySem.W.Frag) (a : Addr) : It :=
  ⟨fun i H => ∃ xs x, SqT K H a xs ∧ xs[i]? = some x, fun i H v H' => ∃ T x, v = .ref T ∧ H T = none ∧ H' = upd H T (.tup [.int (i : Nat), x]) ∧ ∀ xs, SqT K H a xs → xs[i]? = some x, fun i H => ∃ xs, SqT K H a xs ∧ xs.length ≤ i⟩
theorem turn_enumT {P : Program} {w : World} {K : PySem.W.Frag} {elts : List Expr} {kk : Nat} {tpos : Pos} (a e it : Addr) :
    Turn P w K (.Tuple elts kk tpos) (IteT K a) [e, it] e (fun i h => (∃ old, IsEnum h e it ((i : Nat) : Int) old) ∧ h.IsTupleIter it a i ∧ e ≠ it) where
  mem := List.mem_cons_self
  obj := fun i h ⟨⟨old, he⟩, ⟨o, ho, hc, hd⟩, _⟩ b hb => by
    rcases List.mem_cons.mp hb with rfl | hb
    · exact ⟨_, he, fun v q => nomatch q⟩
    · obtain rfl := List.mem_singleton.mp hb
      exact ⟨o, ho, fun v q => by rw [hd] at q; cases q⟩
  keep := fun i h h' ⟨⟨old, he⟩, hi, hne⟩ k => ⟨⟨old, k e List.mem_cons_self _ he⟩, hi.at fun o q => k it (by simp) o q, hne⟩
  item := by
    intro X hP hw hK hc i pins s σ H E I hf ⟨⟨old, he⟩, hit, hne⟩ ⟨xs, x, hq, hx⟩
    subst hP hw hK
    obtain ⟨its, rv, p, _⟩ := I.tuple hq
    obtain ⟨u, hu, ru⟩ := rv.get hx
    have el := Heap.lt_size he
    have il : it < s.heap.objs.size := by obtain ⟨_, q, _⟩ := hit; exact Heap.lt_size q
    have ta : s.heap.IsTuple a its.toArray := p
    have nea : ∀ b n, (∃ o, s.heap.get? b = some o ∧ o.cls = .type n) → n ≠ "tuple" → a ≠ b := by
      rintro b n ⟨o, ho, hn⟩ hz rfl
      obtain ⟨o2, h2, c2, _⟩ := ta
      rw [ho] at h2
      cases h2
      rw [hn] at c2
      exact hz (by injection c2)
    have aIt : a ≠ it := nea it "tuple_iterator" (by obtain ⟨o, q, c, _⟩ := hit; exact ⟨o, q, c⟩) (by decide)
    have aE : a ≠ e := nea e "enumerate" ⟨_, he, rfl⟩ (by decide)
    have D := Draws.tuple (prog := X.prog) (w := X.w) (A := X.A.in1) (by show X.A.handled = none; exact I.ok.hd hc) it a aIt its.toArray
    have hlt : i < its.toArray.size := by
      have := (List.getElem?_eq_some_iff.mp hu).1
      simpa using this
    refine wpAny_pyNext_enum_itemD D he ⟨hit, ta⟩ hlt hne (fun z => ?_) fun y h' tk hy ho hst hT hsz hk => ?_
    · rcases List.mem_cons.mp z with z | z
      · exact hne z
      · exact aE (List.mem_singleton.mp z).symm
    · have ey : y = u := by
        have q : its[i]? = some y := by simpa using hy
        rw [hu] at q
        exact (Option.some.inj q).symm
      subst ey
      refine ⟨_, rfl, wpAny_letOwnedTupleGo_enum (s := { s with heap := h', toks := tk + 1 }) ho fun h2 he2 sb => ?_⟩
      have eT : h2.get? s.heap.objs.size = some { cls := .type "tuple", data := .seq #[.int i tk, y] } := (sb.2 _ (Nat.ne_of_gt el)).trans hT
      have new : ObjOk X.prog X.w (upd H s.heap.objs.size (.tup [.int (i : Nat), x])) h2 s.heap.objs.size (.tup [.int (i : Nat), x]) := ⟨by show 2 ≤ sizeLine; decide, [.int i tk, y], .cons ⟨_, rfl⟩ (.cons ru .nil), _, eT, rfl, _, rfl⟩
      have other : ∀ b o, b ∉ [e, it] → s.heap.get? b = some o → h2.get? b = some o := fun b o hb q => by
        have b1 : b ≠ e := fun z => hb (by simp [z])
        have b2 : b ≠ it := fun z => hb (by simp [z])
        exact (sb.2 b b1).trans (hk b o b1 b2 q)
      refine ⟨.ref s.heap.objs.size, _, I.turnedNew (t' := tk + 1) other hf (Nat.le_refl _) new, rfl, ⟨_, x, rfl, I.hok.fresh (Nat.le_refl _), rfl, fun ys hy => by rw [I.tuple_inj hy hq]; exact hx⟩, ⟨⟨y, ?_⟩, hst.1.at fun o q => (sb.2 it (Ne.symm hne)).trans q, hne⟩, fun b hb => ?_⟩
      · rw [show ((i + 1 : Nat) : Int) = (i : Int) + 1 by omega]; exact he2
      · have hl : b < s.heap.objs.size := by
          rcases List.mem_cons.mp hb with rfl | hb
          · exact el
          · rw [List.mem_singleton.mp hb]; exact il
        rw [upd_ne (Nat.ne_of_lt hl)]
        exact (hf b hb).1
  done := by
    intro X hP hw hK hc i pins s σ H E I hf ⟨⟨old, he⟩, hit, hne⟩ ⟨xs, hq, hx⟩
    subst hP hw hK
    obtain ⟨its, rv, p, _⟩ := I.tuple hq
    have ta : s.heap.IsTuple a its.toArray := p
    have hl := rv.length
    obtain ⟨f0, f1, f2, f3, f4, f5⟩ := hf it (by simp)
    have hT : s.TypeIs (.ref e) "enumerate" := ⟨_, he, rfl⟩
    unfold pyNext
    refine wpAny_bind (wpAny_attempt (wpAny_callSpecial?_slot (name := Str.ofString "__next__") hT F.slot_enumerate_next (wpAny_call_entry F.slot_enumerate_next hT F.entry_enumerate_next ?_ (F.args_enumerate_next_1 _))))
    show wpAny _ _ (field (.ref e) 2 >>= _) _ _ _
    refine wpAny_bind (wpAny_field he rfl (x := .ref it) rfl ?_)
    refine wpAny_bind (wpAny_nextOf_tuple_end (by show X.A.handled = none; exact I.ok.hd hc) hit ta (by simp; omega) fun h' x eb ⟨o, ho, hcl⟩ => ?_)
    exact wpAny_bind (wpAny_isInstance (T := "StopIteration") (b := true) ⟨o, ho, hcl⟩ isSubtype_stop (wpAny_pure ⟨rfl, I.turned (t' := s.toks) (fun b u hb q => eb b u hb q) f0 f1 f3 f4 f5⟩))
  self := fun A i s Q E ⟨⟨_, he⟩, _⟩ h => wpAny_pyIter_enum he h
section
variable {X : Cx} {e : Expr} {ta : TA} {p pos tpos : Pos} {elts : List Expr} {kk : Nat}
def iEnumA (K : PySem.W.Frag) (ta : TA) : TI := fun σ H R => ta σ H fun vs H1 => ∃ a, vs = [.ref a] ∧ ((∃ xs, SqL K H1 a xs) ∧ R (Ite K a) H1 ∨ (∃ xs, SqT K H1 a xs) ∧ R (IteT K a) H1)
theorem pi_enumA (hg : Gl X "enumerate") (hm : X.mg "enumerate" = none) (ha : PA X [e] ta) (hs : starEach [e] X.env = [(false, eval e X.env)]) : PI X (.Tuple elts kk tpos) (.Call (.Name "enumerate" p) [e] [] pos) (iEnumA X.K ta) := by
  refine ⟨fun pins s σ H R I h => ?_⟩
  refine Call_ (ld_blt I hg hm boot_enumerate (PyProof.Rows.callWith_type1 (thn (ha.run pos pins s σ H _ I h) fun us s1 ⟨vs, H1, I1, r1, q1⟩ => ?_) hs rfl))
  obtain ⟨a, rfl, q1⟩ := q1
  obtain rfl := Vals.ref1 r1
  have apart : ∀ b ∈ [s1.heap.objs.size + 1, s1.heap.objs.size], FpOk X pins H1 b := fun b hb => by
    have le : s1.heap.objs.size ≤ b := by
      rcases List.mem_cons.mp hb with rfl | hb
      · exact Nat.le_succ _
      · rw [List.mem_singleton.mp hb]; exact Nat.le_refl _
    exact I1.fpOk le (I1.hok.fresh le)
  rcases q1 with ⟨⟨xs, hq⟩, q⟩ | ⟨⟨xs, hq⟩, q⟩
  · obtain ⟨its, rv, pl, _⟩ := I1.list hq
    refine enum_call (begins_list a its.toArray) pl.isList fun h' he hit hk => wpAny_pyIter_enum he ?_
    exact ⟨s1.heap.objs.size + 1, [s1.heap.objs.size + 1, s1.heap.objs.size], _, _, H1, rfl, I1.kept (t' := s1.toks) hk, turn_enum a _ _, ⟨⟨.none, he⟩, ⟨_, hit, rfl, rfl⟩, Nat.succ_ne_self _⟩, apart, q⟩
  · obtain ⟨its, rv, pt, _⟩ := I1.tuple hq
    refine enum_call (begins_tuple a its.toArray) (show s1.heap.IsTuple a its.toArray from pt) fun h' he hit hk => wpAny_pyIter_enum he ?_
    exact ⟨s1.heap.objs.size + 1, [s1.heap.objs.size + 1, s1.heap.objs.size], _, _, H1, rfl, I1.kept (t' := s1.toks) hk, turn_enumT a _ _, ⟨⟨.none, he⟩, ⟨_, hit, rfl, rfl⟩, Nat.succ_ne_self _⟩, apart, q⟩
end
end DL
set_option Elab.async false
set_option linter.all false
set_option maxRecDepth 100000
set_option maxHeartbeats 4000000
namespace DL
open PySem PySem.Spec PyProof.Rows L2 HT

/-! ## a tuple turned about -/
theorem back_places (n : Nat) : Builtin.Slice.sliceAdjust none none (-1) (n : Int) = ((n : Int) - 1, -1) ∧ Builtin.Slice.slicePlaces ((n : Int) - 1) (-1) (-1) = n := by
  constructor
  · unfold Builtin.Slice.sliceAdjust
    simp
  · unfold Builtin.Slice.slicePlaces
    simp
    omega
theorem fm_congr {α β : Type} {f g : α → Option β} : ∀ {l : List α}, (∀ m ∈ l, f m = g m) → l.filterMap f = l.filterMap g
  | [], _ => rfl
  | x :: l, h => by simp only [List.filterMap_cons, h x List.mem_cons_self, fm_congr (l := l) fun m hm => h m (List.mem_cons_of_mem _ hm)]
theorem back_pick (xs : Array Value) : ((List.range xs.size).filterMap fun (m : Nat) => xs[(((xs.size : Int) - 1) + (m : Int) * (-1)).toNat]?).toArray = xs.toList.reverse.toArray := by
  congr 1
  have e : (List.range xs.size).filterMap (fun (m : Nat) => xs[(((xs.size : Int) - 1) + (m : Int) * (-1)).toNat]?) = ((List.range xs.size).map fun k => xs.size - 1 - k).filterMap (xs[·]?) := by
    rw [List.filterMap_map]
    refine fm_congr fun m hm => ?_
    have hm := List.mem_range.mp hm
    have : (((xs.size : Int) - 1) + (m : Int) * (-1)).toNat = xs.size - 1 - m := by omega
    simp only [Function.comp, this]
  rw [e, PySem.W.krv_range, List.filterMap_reverse, PySem.W.krv_all]
section
variable {prog : Program} {w : World} {A : Around} {E : Value → Shared → Prop} {s : Shared}
theorem applied_back {sl : Addr} {vl vu vs : Value} {n : Nat} {Q : Int × Int × Nat → Shared → Prop} (held : s.heap.IsSliceOf sl vl vu vs) (pl : IsPart vl none) (pu : IsPart vu none) (ps : IsPart vs (some (-1))) (h : Q ((n : Int) - 1, -1, n) s) :
    wpAny (model prog w) A (Builtin.Slice.sliceApplied (.ref sl) (pure (n : Int))) Q E s := by
  obtain ⟨os, hos, hcs, hds⟩ := id held
  obtain ⟨e1, e2⟩ := back_places n
  unfold Builtin.Slice.sliceApplied Builtin.Slice.sliceFields
  refine wpAny_bind (wpAny_bind (wpAny_field hos hds (x := vl) rfl (wpAny_bind (wpAny_field hos hds (x := vu) rfl (wpAny_bind (wpAny_field hos hds (x := vs) rfl (wpAny_pure ?_)))))))
  refine wpAny_bind (slicePart_ ps ?_)
  show wpAny _ _ (if ((-1 : Int) == 0) = true then _ else _) _ _ s
  rw [if_neg (by decide)]
  refine wpAny_bind (slicePart_ pl (wpAny_bind (slicePart_ pu (wpAny_bind (wpAny_pure ?_)))))
  show wpAny _ _ (match Builtin.Slice.sliceAdjust none none (-1) (n : Int) with | (lo, hi) => pure (lo, (-1 : Int), Builtin.Slice.slicePlaces lo hi (-1))) _ _ s
  rw [e1]
  show wpAny _ _ (pure ((n : Int) - 1, (-1 : Int), Builtin.Slice.slicePlaces ((n : Int) - 1) (-1) (-1))) _ _ s
  rw [e2]
  exact wpAny_pure h
theorem get_back {t sl : Addr} {its : Array Value} {vl vu vs : Value} {Q : Value → Shared → Prop} (ht : IsTup s.heap t its) (held : s.heap.IsSliceOf sl vl vu vs) (pl : IsPart vl none) (pu : IsPart vu none) (ps : IsPart vs (some (-1)))
    (h : Q (.ref s.heap.objs.size) { s with heap := s.heap.push { cls := .type "tuple", data := .seq its.toList.reverse.toArray } }) (short : its.size ≤ sizeLine) : wpAny (model prog w) A (getItem (.ref t) (.ref sl)) Q E s := by
  have fits : sizeOk (.seq its.toList.reverse.toArray) := by
    show its.toList.reverse.toArray.size ≤ sizeLine
    simpa using short
  obtain ⟨os, hos, hcs, hds⟩ := id held
  have hTs : s.TypeIs (.ref sl) "slice" := ⟨os, hos, hcs⟩
  unfold getItem
  try with_reducible refine wpAny_holding ?_
  first | refine wpAny_bind (wpAny_pure ?_) | skip
  refine wpAny_bind (wpAny_sequenceKey ht.typeIs (by decide) ?_)
  refine wpAny_bind (wpAny_callSpecial?_slot (name := Str.ofString "__getitem__") ht.typeIs PyProof.Rows.slot_tuple_getitem (wpAny_call_entry PyProof.Rows.slot_tuple_getitem ht.typeIs entry_tuple_getitem ?_ (args_tuple_getitem _ _)))
  show wpAny _ _ (Builtin.Tuple.tupleItemsOf (.ref t) >>= _) _ _ s
  refine wpAny_bind (tupleItemsOf_ ht (wpAny_bind (wpAny_typeOf hTs ?_)))
  rw [if_pos (by decide)]
  refine wpAny_bind (applied_back held pl pu ps ?_)
  show wpAny _ _ (if (((its.size : Int) - 1) == 0 && (-1 : Int) == 1 && its.size == its.size) = true then _ else _) _ _ s
  rw [if_neg (by simp)]
  show wpAny _ _ ((Builtin.Tuple.tupleExact ((List.range its.size).filterMap fun (m : Nat) => its[(((its.size : Int) - 1) + (m : Int) * (-1)).toNat]?).toArray) >>= _) _ _ s
  rw [back_pick]
  first
    | exact wpAny_bind (m := Builtin.Tuple.tupleExact _) (wpAny_newObj_type (wpAny_pure ⟨_, rfl, wpAny_pure h⟩) fits)
    | exact wpAny_bind (m := Builtin.Tuple.tupleExact _) (wpAny_newObj_type (wpAny_bind (wpAny_pure (wpAny_pure ⟨_, rfl, wpAny_pure h⟩))) fits)
end
section
variable {X : Cx}
/-- t[::-1], t a list or a tuple -/
def tBack (K : PySem.W.Frag) (te : TE) : TE := fun σ H Q => te σ H fun x H1 => ∃ a xs, x = .ref a ∧ ((SqL K H1 a xs ∧ ∀ p, H1 p = none → Q (.ref p) (upd H1 p (.lst xs.reverse))) ∨ (SqT K H1 a xs ∧ ∀ p, H1 p = none → Q (.ref p) (upd H1 p (.tup xs.reverse))))
theorem pe_back {e : Expr} {te : TE} {k : Nat} {p1 p2 p3 pos : Pos} (he : PE X e te) : PE X (.Subscript e (.Slice none none (some (.UnaryOp .USub (.Constant (.int 1) k p1) p2)) p3) pos) (tBack X.K te) := by
  refine ⟨fun pins s σ H Q I h => ?_⟩
  refine Subscript_ (thn (he.run pins s σ H _ I h) fun v s1 ⟨x, H1, I1, r1, a, xs, ex, q1⟩ => ?_)
  subst ex
  cases r1
  have step : PO X (some (.UnaryOp .USub (.Constant (.int 1) k p1) p2)) (tPart (tUn (rU fun i => .int (-i)) (tC (.int 1)))) := po_some (pe_un un_neg pe_int)
  refine wpAny_Slice (thn (po_none.run pins s1 σ H1 (fun o H2 => o = none ∧ H2 = H1) I1 ⟨rfl, rfl⟩) fun vl s2 ⟨l, H2, I2, pl, el, e2⟩ => ?_)
  subst el e2
  refine thn (po_none.run pins s2 σ H2 (fun o H3 => o = none ∧ H3 = H2) I2 ⟨rfl, rfl⟩) fun vu s3 ⟨u, H3, I3, pu, eu, e3⟩ => ?_
  subst eu e3
  refine thn (step.run pins s3 σ H3 (fun o H4 => o = some (-1) ∧ H4 = H3) I3 ⟨1, rfl, -1, rfl, rfl, rfl⟩) fun vs s4 ⟨o, H4, I4, ps, eo, e4⟩ => ?_
  subst eo e4
  have I5 : Inv X pins σ H4 { s4 with heap := s4.heap.push { cls := .type "slice", data := .fields #[vl, vu, vs] } } := I4.kept (t' := s4.toks) fun b ob q => Heap.get?_push_of_some _ q
  show wpAny (model X.prog X.w) X.A (subscriptTail e (.Slice none none (some (.UnaryOp .USub (.Constant (.int 1) k p1) p2)) p3) (.ref a) (.ref s4.heap.objs.size)) (EP X pins σ Q) X.xe { s4 with heap := s4.heap.push { cls := .type "slice", data := .fields #[vl, vu, vs] } }
  rcases q1 with ⟨hx, q⟩ | ⟨hx, q⟩
  · obtain ⟨its, r, ht, hz⟩ := I5.list hx
    have hlen := r.length
    refine tail_any (ops := [.ref a, .ref s4.heap.objs.size]) ht.isList.typeIs PySem.slot_list_getitem.lookup (wpAny_getItem_list_slice ht.isList (Heap.IsSliceOf.new _ vl vu vs) pl pu ps (by decide) ?_ (by rw [List.size_toArray]; omega)) (by with_unfolding_all rfl)
    rw [PySem.W.krv_pick]
    refine ⟨.ref _, _, I5.laid (t' := s4.toks) (o := .lst xs.reverse) (fun b ob z => Heap.get?_push_of_some _ z) (Nat.le_refl _) ⟨by rw [List.length_reverse]; exact hz, _, 0, r.reverse, Heap.get?_push_size _ rfl⟩, rfl, q _ (I5.hok.fresh (Nat.le_refl _))⟩
  · obtain ⟨its, r, ht, hz⟩ := I5.tuple hx
    have hlen := r.length
    refine tail_any (ops := [.ref a, .ref s4.heap.objs.size]) ht.typeIs PyProof.Rows.slot_tuple_getitem.lookup (get_back ht (Heap.IsSliceOf.new _ vl vu vs) pl pu ps ?_ (by rw [List.size_toArray]; omega)) (by with_unfolding_all rfl)
    refine ⟨.ref _, _, I5.laid (t' := s4.toks) (o := .tup xs.reverse) (fun b ob z => Heap.get?_push_of_some _ z) (Nat.le_refl _) ⟨by rw [List.length_reverse]; exact hz, _, r.reverse, IsTup.new _ _⟩, rfl, q _ (I5.hok.fresh (Nat.le_refl _))⟩
end
end DL
set_option Elab.async false
set_option linter.all false
set_option maxRecDepth 100000
set_option maxHeartbeats 4000000
namespace DL
open PySem PySem.Spec PyProof.Rows L2

abbrev Ev := List (Option D)
inductive Fl where
  | nx (e : Ev) | ret (d : D) | bk (e : Ev) | ct (e : Ev) | exc (x : Ex) (e : Ev)
abbrev S := Hs → Option (Fl × Hs)

/-! ## what is wanted behind a run -/
section
variable (K : PySem.W.Frag) (mg : Str → Option Value)
def AfterM (W : WX) (σ : L2.St) (m : List Addr) (H : Hp) {α : Type} (r : Option (Except Ex α × Hs)) (Q : α → List Addr → Hs → Hp → Prop) : Prop :=
  match r with
  | some (.ok a, hs') => ∀ m' H', Ext K m H m' H' → HR K mg m' hs' H' → Q a m' hs' H'
  | some (.error x, hs') => ∀ m' H' cls d, Ext K m H m' H' → HR K mg m' hs' H' → RX K mg H' x cls d → W cls d σ H'
  | none => False
def tE (W : WX) (f : Ev → M D) : TE := fun σ H Q => ∃ m ev hs, RS K mg m H ev σ ∧ HR K mg m hs H ∧ AfterM K mg W σ m H (f ev hs) fun d m' _ H' => ∀ v, RV K mg m' H' d v → Q v H'
def tT (W : WX) (f : Ev → M Bool) : TT := fun σ H Q => ∃ m ev hs, RS K mg m H ev σ ∧ HR K mg m hs H ∧ AfterM K mg W σ m H (f ev hs) fun b _ _ H' => Q b H'
def tA (W : WX) (f : Ev → M (List D)) : TA := fun σ H Q => ∃ m ev hs, RS K mg m H ev σ ∧ HR K mg m hs H ∧ AfterM K mg W σ m H (f ev hs) fun ds m' _ H' => ∀ vs, RVs K mg m' H' ds vs → Q vs H'
end
section
variable {K : PySem.W.Frag} {mg : Str → Option Value} {W : WX} {σ : L2.St} {m m1 : List Addr} {H H1 : Hp} {α β : Type}
theorem AfterM.from (e : Ext K m H m1 H1) {r : Option (Except Ex α × Hs)} {Q : α → List Addr → Hs → Hp → Prop} (h : AfterM K mg W σ m H r Q) : AfterM K mg W σ m1 H1 r Q := by
  unfold AfterM at h ⊢
  split
  · exact fun m' H' e' hr => h m' H' (e.trans e') hr
  · exact fun m' H' cls d e' hr q => h m' H' cls d (e.trans e') hr q
  · exact h
theorem AfterM.mono {r : Option (Except Ex α × Hs)} {Q Q' : α → List Addr → Hs → Hp → Prop} (h : AfterM K mg W σ m H r Q)
    (hq : ∀ a m' hs' H', Ext K m H m' H' → HR K mg m' hs' H' → Q a m' hs' H' → Q' a m' hs' H') : AfterM K mg W σ m H r Q' := by
  unfold AfterM at h ⊢
  split
  · exact fun m' H' e' hr => hq _ _ _ _ e' hr (h m' H' e' hr)
  · exact h
  · exact h
theorem AfterM.bind {f : M α} {g : α → M β} {hs : Hs} {Q : β → List Addr → Hs → Hp → Prop} (h : AfterM K mg W σ m H (M.bind f g hs) Q) :
    AfterM K mg W σ m H (f hs) fun a m1 hs1 H1 => AfterM K mg W σ m1 H1 (g a hs1) Q := by
  unfold M.bind at h
  cases e : f hs with
  | none => rw [e] at h; exact h
  | some r =>
    obtain ⟨r, h1⟩ := r
    cases r with
    | ok a =>
      rw [e] at h
      exact fun m' H' e' hr => AfterM.from e' h
    | error x =>
      rw [e] at h
      exact h
theorem AfterM.pure {a : α} {hs : Hs} {Q : α → List Addr → Hs → Hp → Prop} (h : AfterM K mg W σ m H (M.pure a hs) Q) (hr : HR K mg m hs H) : Q a m hs H := h m H .refl hr
theorem AfterM.lift {f : P α} {hs : Hs} {Q : α → List Addr → Hs → Hp → Prop} (h : AfterM K mg W σ m H (M.lift f hs) Q) : ∃ a hs', f hs = some (a, hs') ∧ ∀ m' H', Ext K m H m' H' → HR K mg m' hs' H' → Q a m' hs' H' := by
  unfold M.lift at h
  cases e : f hs with
  | none => rw [e] at h; exact h.elim
  | some r => obtain ⟨a, h1⟩ := r; rw [e] at h; exact ⟨a, h1, rfl, h⟩
end
theorem _root_.L2.PE.imp {X : Cx} {e : Expr} {t t' : TE} (h : PE X e t) (hi : ∀ σ H Q, t' σ H Q → t σ H Q) : PE X e t' := ⟨fun pins s σ H Q I q => h.run pins s σ H Q I (hi σ H Q q)⟩
theorem _root_.L2.PT.imp {X : Cx} {e : Expr} {t t' : TT} (h : PT X e t) (hi : ∀ σ H Q, t' σ H Q → t σ H Q) : PT X e t' := ⟨fun pins s σ H Q I q => h.run pins s σ H Q I (hi σ H Q q)⟩
theorem _root_.L2.PW.imp {X : Cx} {e : Expr} {t t' : TT} (h : PW X e t) (hi : ∀ σ H Q, t' σ H Q → t σ H Q) : PW X e t' := ⟨fun wh pins s σ H Q I q => h.run wh pins s σ H Q I (hi σ H Q q)⟩
theorem _root_.L2.PA.imp {X : Cx} {e : List Expr} {t t' : TA} (h : PA X e t) (hi : ∀ σ H Q, t' σ H Q → t σ H Q) : PA X e t' := ⟨fun ps pins s σ H Q I q => h.run ps pins s σ H Q I (hi σ H Q q)⟩
theorem _root_.L2.PS.imp {X : Cx} {e : Stmt} {t t' : TS} (h : PS X e t) (hi : ∀ D σ H, t' D σ H → t D σ H) : PS X e t' := ⟨fun pins s σ H D I q => h.run pins s σ H D I (hi D σ H q)⟩
theorem _root_.L2.PSs.imp {X : Cx} {e : List Stmt} {t t' : TS} (h : PSs X e t) (hi : ∀ D σ H, t' D σ H → t D σ H) : PSs X e t' := ⟨fun pins s σ H D I q => h.run pins s σ H D I (hi D σ H q)⟩

section
variable {X : Cx} {W : WX}
abbrev DE (X : Cx) (W : WX) (e : Expr) (f : Ev → M D) : Prop := PE X e (tE X.K X.mg W f)
abbrev DT (X : Cx) (W : WX) (e : Expr) (f : Ev → M Bool) : Prop := PT X e (tT X.K X.mg W f)
abbrev DA (X : Cx) (W : WX) (es : List Expr) (f : Ev → M (List D)) : Prop := PA X es (tA X.K X.mg W f)
/-- nothing is claimed of what is stuck -/
theorem de_no {e : Expr} : DE X W e fun _ => M.stuck := ⟨fun _ _ _ _ _ _ ⟨_, _, _, _, _, h⟩ => h.elim⟩
theorem dt_no {e : Expr} : DT X W e fun _ => M.stuck := ⟨fun _ _ _ _ _ _ ⟨_, _, _, _, _, h⟩ => h.elim⟩
theorem da_no {e : List Expr} : DA X W e fun _ => M.stuck := ⟨fun _ _ _ _ _ _ _ ⟨_, _, _, _, _, h⟩ => h.elim⟩

/-! ### constants, names -/
theorem de_const {e : Expr} {d : D} {v : V} (h : PE X e (tC v)) (r : ∀ m H, RV X.K X.mg m H d v) : DE X W e fun _ => M.pure d :=
  h.imp fun σ H Q ⟨m, ev, hs, rs, hr, q⟩ => q.pure hr v (r m H)
def varD (i : Nat) (e : Ev) : M D := match e[i]? with
  | some (some d) => M.pure d
  | _ => M.stuck
theorem de_var {x : Str} {pos : Pos} {i : Nat} (h : PE X (.Name x pos) (tVar i)) : DE X W (.Name x pos) (varD i) := h.imp fun σ H Q ⟨m, ev, hs, rs, hr, q⟩ => by
  unfold varD at q
  cases e : ev[i]? with
  | none => rw [e] at q; exact q.elim
  | some o =>
    cases o with
    | none => rw [e] at q; exact q.elim
    | some d =>
      rw [e] at q
      obtain ⟨v, e1, r⟩ := rs.at_ i d e
      exact ⟨v, e1, q.pure hr v r⟩

/-! ### operators -/
variable {a b c : Expr} {fa fb fc : Ev → M D} {pos : Pos}
def op2 (f : D → D → P D) (fa fb : Ev → M D) : Ev → M D := fun e => M.bind (fa e) fun x => M.bind (fb e) fun y => M.lift (f x y)
theorem op2_ok {f : D → D → P D} {σ : L2.St} {H : Hp} {Q : VK} (h : tE X.K X.mg W (op2 f fa fb) σ H Q) : tOp (rP2 X.K X.mg f) (tE X.K X.mg W fa) (tE X.K X.mg W fb) σ H Q := by
  obtain ⟨m, ev, hs, rs, hr, q⟩ := h
  refine ⟨m, ev, hs, rs, hr, q.bind.mono fun x m1 hs1 H1 e1 hr1 q1 v rv => ?_⟩
  refine ⟨m1, ev, hs1, rs.mono e1, hr1, q1.bind.mono fun y m2 hs2 H2 e2 hr2 q2 w rw => ?_⟩
  obtain ⟨d, hs3, e, k⟩ := q2.lift
  exact ⟨m2, hs2, x, y, d, hs3, hr2, rv.mono e2, rw, e, fun m' H' v e hr r => k m' H' e hr v r⟩
theorem de_bin {op : Operator} (ha : DE X W a fa) (hb : DE X W b fb) : DE X W (.BinOp a op b pos) (op2 (binD op) fa fb) := (pe_op (binD_ok op) ha hb).imp fun _ _ _ h => op2_ok h
theorem de_ix (ha : DE X W a fa) (hb : DE X W b fb) (hs : PlainIx b) : DE X W (.Subscript a b pos) (op2 ixD fa fb) := (pe_ix ixD_ok ha hb hs).imp fun _ _ _ h => op2_ok h
theorem de_cmp (hu : X.A.units + 65 < cLine) {op : CmpOp} (ha : DE X W a fa) (hb : DE X W b fb) (hm : behindInMarks op b = false) : DE X W (.Compare a [op] [b] pos) (op2 (cmpD op) fa fb) :=
  (pe_cmpR (cmpD_ok hu op) ha hb hm).imp fun _ _ _ h => op2_ok h
def boolOf : D → M Bool
  | .bl b => M.pure b
  | _ => M.stuck
theorem boolOf_ok {K : PySem.W.Frag} {mg : Str → Option Value} {σ : L2.St} {m : List Addr} {H : Hp} {hs : Hs} {d : D} {Q : Bool → List Addr → Hs → Hp → Prop} (h : AfterM K mg W σ m H (boolOf d hs) Q) (hr : HR K mg m hs H) : ∃ b, d = .bl b ∧ Q b m hs H := by
  cases d <;> try exact h.elim
  exact ⟨_, rfl, h.pure hr⟩
def asTest (f : Ev → M D) : Ev → M Bool := fun e => M.bind (f e) boolOf
theorem asTest_ok {f : Ev → M D} {σ : L2.St} {H : Hp} {Q : Bool → Hp → Prop} (h : tT X.K X.mg W (asTest f) σ H Q) : tE X.K X.mg W f σ H fun x H' => ∃ k, x = .bl k ∧ Q k H' := by
  obtain ⟨m, ev, hs, rs, hr, q⟩ := h
  refine ⟨m, ev, hs, rs, hr, q.bind.mono fun x m1 hs1 H1 e1 hr1 q1 v rv => ?_⟩
  obtain ⟨b, rfl, q2⟩ := boolOf_ok q1 hr1
  exact ⟨b, rv_bl rv, q2⟩
theorem dt_cmp (hu : X.A.units + 65 < cLine) {op : CmpOp} (ha : DE X W a fa) (hb : DE X W b fb) (hm : behindInMarks op b = false) : DT X W (.Compare a [op] [b] pos) (asTest (op2 (cmpD op) fa fb)) :=
  (pt_cmpR (cmpD_ok hu op) ha hb hm).imp fun _ _ _ h => by
    have q := asTest_ok h
    exact op2_ok q
/-- a op b op' c -/
def op3 (f g : D → D → P D) (fa fb fc : Ev → M D) : Ev → M D := fun e => M.bind (fa e) fun x => M.bind (fb e) fun y => M.bind (M.lift (f x y)) fun z => M.bind (boolOf z) fun k => if k = true then M.bind (fc e) fun w => M.lift (g y w) else M.pure (.bl false)
theorem op3_ok {f g : D → D → P D} {σ : L2.St} {H : Hp} {Q : VK} (h : tE X.K X.mg W (op3 f g fa fb fc) σ H Q) : tChain (rP2 X.K X.mg f) (rP2 X.K X.mg g) (tE X.K X.mg W fa) (tE X.K X.mg W fb) (tE X.K X.mg W fc) σ H Q := by
  obtain ⟨m, ev, hs, rs, hr, q⟩ := h
  refine ⟨m, ev, hs, rs, hr, q.bind.mono fun x m1 hs1 H1 e1 hr1 q1 v rv => ?_⟩
  refine ⟨m1, ev, hs1, rs.mono e1, hr1, q1.bind.mono fun y m2 hs2 H2 e2 hr2 q2 w rw => ?_⟩
  obtain ⟨z, hs3, e, k⟩ := q2.bind.lift
  refine ⟨m2, hs2, x, y, z, hs3, hr2, rv.mono e2, rw, e, fun m3 H3 v3 e3 hr3 rz => ?_⟩
  obtain ⟨t, rfl, q4⟩ := boolOf_ok (k m3 H3 e3 hr3).bind hr3
  refine ⟨t, rv_bl rz, ?_⟩
  cases t with
  | false =>
    rw [if_neg Bool.false_ne_true] at q4 ⊢
    exact q4.pure hr3 _ mk_bl
  | true =>
    rw [if_pos rfl] at q4 ⊢
    refine ⟨m3, ev, hs3, ((rs.mono e1).mono e2).mono e3, hr3, q4.bind.mono fun u m5 hs5 H5 e5 hr5 q5 v5 r5 => ?_⟩
    obtain ⟨d, hs6, e6, k6⟩ := q5.lift
    exact ⟨m5, hs5, y, u, d, hs6, hr5, (rw.mono e3).mono e5, r5, e6, fun m' H' v e hr r => k6 m' H' e hr v r⟩
theorem de_cmp2 (hu : X.A.units + 65 < cLine) {op op' : CmpOp} (ha : DE X W a fa) (hb : DE X W b fb) (hc : DE X W c fc) (hm : lastMarks [op, op'] [b, c] = false) : DE X W (.Compare a [op, op'] [b, c] pos) (op3 (cmpD op) (cmpD op') fa fb fc) :=
  (pe_chain (cmpD_ok hu op) (cmpD_ok hu op') ha hb hc hm).imp fun _ _ _ h => op3_ok h
theorem dt_cmp2 (hu : X.A.units + 65 < cLine) {op op' : CmpOp} (ha : DE X W a fa) (hb : DE X W b fb) (hc : DE X W c fc) (hm : lastMarks [op, op'] [b, c] = false) : DT X W (.Compare a [op, op'] [b, c] pos) (asTest (op3 (cmpD op) (cmpD op') fa fb fc)) :=
  (pt_chain (cmpD_ok hu op) (cmpD_ok hu op') ha hb hc hm).imp fun _ _ _ h => op3_ok (asTest_ok h)
/-! truth -/
def truM (d : D) : M Bool := fun hs => match truD hs d with
  | some b => some (.ok b, hs)
  | none => none
theorem truM_ok {K : PySem.W.Frag} {mg : Str → Option Value} {σ : L2.St} {m : List Addr} {H : Hp} {hs : Hs} {d : D} {v : V} {Q : Bool → List Addr → Hs → Hp → Prop} (h : AfterM K mg W σ m H (truM d hs) Q) (hr : HR K mg m hs H) (r : RV K mg m H d v) : ∃ b, TruV K v H b ∧ Q b m hs H := by
  unfold truM at h
  cases e : truD hs d with
  | none => rw [e] at h; exact h.elim
  | some b => rw [e] at h; exact ⟨b, truD_ok hr r e, h m H .refl hr⟩
def truth (f : Ev → M D) : Ev → M Bool := fun e => M.bind (f e) truM
theorem dt_truth (ha : DE X W a fa) (he : ∀ whole, isTrue a X.env whole = (do let v ← whole; standAt a.pos; holding [v] (truthy v))) : DT X W a (truth fa) :=
  (pt_truth ha he).imp fun σ H Q ⟨m, ev, hs, rs, hr, q⟩ => ⟨m, ev, hs, rs, hr, q.bind.mono fun x m1 hs1 H1 e1 hr1 q1 v rv => truM_ok q1 hr1 rv⟩
def notM (f : Ev → M Bool) : Ev → M Bool := fun e => M.bind (f e) fun b => M.pure (!b)
theorem dt_not {f : Ev → M Bool} (ha : DT X W a f) : DT X W (.UnaryOp .Not a pos) (notM f) :=
  (pt_not ha).imp fun σ H Q ⟨m, ev, hs, rs, hr, q⟩ => ⟨m, ev, hs, rs, hr, q.bind.mono fun x m1 hs1 H1 e1 hr1 q1 => q1.pure hr1⟩
def notV (f : Ev → M D) : Ev → M D := fun e => M.bind (f e) fun x => M.bind (truM x) fun b => M.pure (.bl (!b))
theorem de_not (ha : DE X W a fa) : DE X W (.UnaryOp .Not a pos) (notV fa) :=
  (pe_notT ha).imp fun σ H Q ⟨m, ev, hs, rs, hr, q⟩ => ⟨m, ev, hs, rs, hr, q.bind.mono fun x m1 hs1 H1 e1 hr1 q1 v rv => by
    obtain ⟨b, tb, q2⟩ := truM_ok q1.bind hr1 rv
    exact ⟨b, tb, q2.pure hr1 _ mk_bl⟩⟩
def negD : D → M D
  | .int i => M.pure (.int (-i))
  | _ => M.stuck
def negV (f : Ev → M D) : Ev → M D := fun e => M.bind (f e) negD
theorem de_neg (ha : DE X W a fa) : DE X W (.UnaryOp .USub a pos) (negV fa) :=
  (pe_un un_neg ha).imp fun σ H Q ⟨m, ev, hs, rs, hr, q⟩ => ⟨m, ev, hs, rs, hr, q.bind.mono fun x m1 hs1 H1 e1 hr1 q1 v rv => by
    cases x <;> try exact q1.elim
    exact ⟨_, rv_int rv, q1.pure hr1 _ mk_int⟩⟩
variable {ft fu : Ev → M Bool}
def ifV {α : Type} (ft : Ev → M Bool) (fa fb : Ev → M α) : Ev → M α := fun e => M.bind (ft e) fun k => if k = true then fa e else fb e
theorem de_if (hc : DT X W c ft) (ha : DE X W a fa) (hb : DE X W b fb) : DE X W (.IfExp c a b pos) (ifV ft fa fb) :=
  (pe_ifExp hc ha hb).imp fun σ H Q ⟨m, ev, hs, rs, hr, q⟩ => ⟨m, ev, hs, rs, hr, q.bind.mono fun k m1 hs1 H1 e1 hr1 q1 => by
    cases k with
    | true => rw [if_pos rfl] at q1 ⊢; exact ⟨m1, ev, hs1, rs.mono e1, hr1, q1⟩
    | false => rw [if_neg Bool.false_ne_true] at q1 ⊢; exact ⟨m1, ev, hs1, rs.mono e1, hr1, q1⟩⟩
/-! and, or: as tests -/
def andM (f g : Ev → M Bool) : Ev → M Bool := fun e => M.bind (f e) fun k => if k = true then g e else M.pure false
def orM (f g : Ev → M Bool) : Ev → M Bool := fun e => M.bind (f e) fun k => if k = true then M.pure true else g e
abbrev DW (X : Cx) (W : WX) (e : Expr) (f : Ev → M Bool) : Prop := PW X e (tT X.K X.mg W f)
variable {rest : List Expr}
theorem dw_and (ha : DT X W a ft) (hb : DW X W (.BoolOp .And (b :: rest) pos) fu) : DW X W (.BoolOp .And (a :: b :: rest) pos) (andM ft fu) :=
  (pw_and ha hb).imp fun σ H Q ⟨m, ev, hs, rs, hr, q⟩ => ⟨m, ev, hs, rs, hr, q.bind.mono fun k m1 hs1 H1 e1 hr1 q1 => by
    cases k with
    | true => rw [if_pos rfl] at q1 ⊢; exact ⟨m1, ev, hs1, rs.mono e1, hr1, q1⟩
    | false => rw [if_neg Bool.false_ne_true] at q1 ⊢; exact q1.pure hr1⟩
theorem dw_or (ha : DT X W a ft) (hb : DW X W (.BoolOp .Or (b :: rest) pos) fu) : DW X W (.BoolOp .Or (a :: b :: rest) pos) (orM ft fu) :=
  (pw_or ha hb).imp fun σ H Q ⟨m, ev, hs, rs, hr, q⟩ => ⟨m, ev, hs, rs, hr, q.bind.mono fun k m1 hs1 H1 e1 hr1 q1 => by
    cases k with
    | true => rw [if_pos rfl] at q1 ⊢; exact q1.pure hr1
    | false => rw [if_neg Bool.false_ne_true] at q1 ⊢; exact ⟨m1, ev, hs1, rs.mono e1, hr1, q1⟩⟩
/-! .. as values -/
def andV (f g : Ev → M D) : Ev → M D := fun e => M.bind (f e) fun x => M.bind (truM x) fun k => if k = true then g e else M.pure x
def orV (f g : Ev → M D) : Ev → M D := fun e => M.bind (f e) fun x => M.bind (truM x) fun k => if k = true then M.pure x else g e
theorem de_and (ha : DE X W a fa) (hb : DE X W (.BoolOp .And (b :: rest) pos) fb) : DE X W (.BoolOp .And (a :: b :: rest) pos) (andV fa fb) :=
  (pe_andT ha hb).imp fun σ H Q ⟨m, ev, hs, rs, hr, q⟩ => ⟨m, ev, hs, rs, hr, q.bind.mono fun x m1 hs1 H1 e1 hr1 q1 v rv => by
    obtain ⟨k, tk, q2⟩ := truM_ok q1.bind hr1 rv
    refine ⟨k, tk, ?_⟩
    cases k with
    | true => rw [if_pos rfl] at q2 ⊢; exact ⟨m1, ev, hs1, rs.mono e1, hr1, q2⟩
    | false => rw [if_neg Bool.false_ne_true] at q2 ⊢; exact q2.pure hr1 _ rv⟩
theorem de_or (ha : DE X W a fa) (hb : DE X W (.BoolOp .Or (b :: rest) pos) fb) : DE X W (.BoolOp .Or (a :: b :: rest) pos) (orV fa fb) :=
  (pe_orT ha hb).imp fun σ H Q ⟨m, ev, hs, rs, hr, q⟩ => ⟨m, ev, hs, rs, hr, q.bind.mono fun x m1 hs1 H1 e1 hr1 q1 v rv => by
    obtain ⟨k, tk, q2⟩ := truM_ok q1.bind hr1 rv
    refine ⟨k, tk, ?_⟩
    cases k with
    | true => rw [if_pos rfl] at q2 ⊢; exact q2.pure hr1 _ rv
    | false => rw [if_neg Bool.false_ne_true] at q2 ⊢; exact ⟨m1, ev, hs1, rs.mono e1, hr1, q2⟩⟩

/-! ### lists of arguments, displays -/
variable {es : List Expr} {fs : Ev → M (List D)}
def consM (f : Ev → M D) (g : Ev → M (List D)) : Ev → M (List D) := fun e => M.bind (f e) fun x => M.bind (g e) fun xs => M.pure (x :: xs)
theorem da_nil : DA X W [] fun _ => M.pure [] := pa_nil.imp fun σ H Q ⟨m, ev, hs, rs, hr, q⟩ => q.pure hr _ (RVs.nil_iff.mpr rfl)
theorem da_cons (ha : DE X W a fa) (hr : DA X W es fs) (hs : starEach (a :: es) X.env = (false, eval a X.env) :: starEach es X.env) : DA X W (a :: es) (consM fa fs) :=
  (pa_cons ha hr hs).imp fun σ H Q ⟨m, ev, hs, rs, hr, q⟩ => ⟨m, ev, hs, rs, hr, q.bind.mono fun x m1 hs1 H1 e1 hr1 q1 v rv => ⟨m1, ev, hs1, rs.mono e1, hr1, q1.bind.mono fun xs m2 hs2 H2 e2 hr2 q2 vs rvs => q2.pure hr2 _ (RVs.cons (rv.mono e2) rvs)⟩⟩
def tupM (f : Ev → M (List D)) : Ev → M D := fun e => M.bind (f e) fun xs => if xs.length ≤ sizeLine then M.pure (.tup xs) else M.stuck
def lstM (f : Ev → M (List D)) : Ev → M D := fun e => M.bind (f e) fun xs => if xs.length ≤ sizeLine then M.lift (newL xs) else M.stuck
theorem de_tup {k : Nat} (h : DA X W es fs) : DE X W (.Tuple es k pos) (tupM fs) :=
  (pe_tup h).imp fun σ H Q ⟨m, ev, hs, rs, hr, q⟩ => ⟨m, ev, hs, rs, hr, q.bind.mono fun xs m1 hs1 H1 e1 hr1 q1 vs rvs => by
    split at q1
    · refine ⟨by rw [← rvs.length]; assumption, fun p hp => ?_⟩
      exact q1 m1 _ (Ext.upd_new hp) (hr1.upd_new hp) _ (mk_tup (SqT.of upd_same) (rvs.mono (Ext.upd_new hp)))
    · exact q1.elim⟩
theorem de_lst (h : DA X W es fs) : DE X W (.List es pos) (lstM fs) :=
  (pe_lst h).imp fun σ H Q ⟨m, ev, hs, rs, hr, q⟩ => ⟨m, ev, hs, rs, hr, q.bind.mono fun xs m1 hs1 H1 e1 hr1 q1 vs rvs => by
    split at q1
    · refine ⟨by rw [← rvs.length]; assumption, fun p hp => ?_⟩
      obtain ⟨d, hs2, e, k⟩ := q1.lift
      cases e
      exact Bk.lst (Q := Q) (fun m' H' v e hr r => k m' H' e hr v r) hr1 rvs hp
    · exact q1.elim⟩

/-! ### slices -/
abbrev DO (X : Cx) (W : WX) (e : Option Expr) (f : Ev → M (Option Int)) : Prop := PO X e (fun σ H Q => ∃ m ev hs, RS X.K X.mg m H ev σ ∧ HR X.K X.mg m hs H ∧ AfterM X.K X.mg W σ m H (f ev hs) fun o _ _ H' => Q o H')
theorem _root_.L2.PO.imp {X : Cx} {e : Option Expr} {t t' : TO} (h : PO X e t) (hi : ∀ σ H Q, t' σ H Q → t σ H Q) : PO X e t' := ⟨fun pins s σ H Q I q => h.run pins s σ H Q I (hi σ H Q q)⟩
def partD : D → M (Option Int)
  | .int i => M.pure (some i)
  | _ => M.stuck
theorem do_none : DO X W none fun _ => M.pure none := L2.PO.imp po_none fun σ H Q ⟨m, ev, hs, rs, hr, q⟩ => q.pure hr
theorem do_some (ha : DE X W a fa) : DO X W (some a) fun e => M.bind (fa e) partD :=
  L2.PO.imp (po_some ha) fun σ H Q ⟨m, ev, hs, rs, hr, q⟩ => ⟨m, ev, hs, rs, hr, q.bind.mono fun x m1 hs1 H1 e1 hr1 q1 v rv => by
    cases x <;> try exact q1.elim
    exact ⟨_, rv_int rv, q1.pure hr1⟩⟩
def sliceM (fa : Ev → M D) (fl fh : Ev → M (Option Int)) : Ev → M D := fun e => M.bind (fa e) fun x => M.bind (fl e) fun lo => M.bind (fh e) fun hi => M.lift (sliceD x lo hi)
theorem de_slice {lo hi : Option Expr} {fl fh : Ev → M (Option Int)} {p2 : Pos} (ha : DE X W a fa) (hl : DO X W lo fl) (hh : DO X W hi fh) : DE X W (.Subscript a (.Slice lo hi none p2) pos) (sliceM fa fl fh) :=
  (pe_slice sliceD_ok ha hl hh).imp fun σ H Q ⟨m, ev, hs, rs, hr, q⟩ => ⟨m, ev, hs, rs, hr, q.bind.mono fun x m1 hs1 H1 e1 hr1 q1 v rv => ⟨m1, ev, hs1, rs.mono e1, hr1, q1.bind.mono fun l m2 hs2 H2 e2 hr2 q2 =>
    ⟨m2, ev, hs2, (rs.mono e1).mono e2, hr2, q2.bind.mono fun u m3 hs3 H3 e3 hr3 q3 => by
      obtain ⟨d, hs4, e, k⟩ := q3.lift
      exact ⟨m3, hs3, x, d, hs4, hr3, (rv.mono e2).mono e3, e, fun m' H' v e hr r => k m' H' e hr v r⟩⟩⟩⟩
/-- xs[::-1] -/
def revD (d : D) : P D := fun hs => match d with
  | .tup xs => some (.tup xs.reverse, hs)
  | d => match listOf hs d with
    | some xs => newL xs.reverse hs
    | none => none
def revM (fa : Ev → M D) : Ev → M D := fun e => M.bind (fa e) fun x => M.lift (revD x)
theorem RVs.reverse {K : PySem.W.Frag} {mg : Str → Option Value} {m : List Addr} {H : Hp} : ∀ {xs : List D} {vs : List V}, RVs K mg m H xs vs → RVs K mg m H xs.reverse vs.reverse
  | [], _, h => by rw [RVs.nil_iff] at h; subst h; exact RVs.nil_iff.mpr rfl
  | x :: xs, _, h => by
    obtain ⟨v, r, rfl, h1, h2⟩ := RVs.cons_iff.mp h
    rw [List.reverse_cons, List.reverse_cons]
    exact (RVs.reverse h2).append (RVs.cons h1 (RVs.nil_iff.mpr rfl))
theorem de_rev {k : Nat} {p1 p2 p3 : Pos} (ha : DE X W a fa) : DE X W (.Subscript a (.Slice none none (some (.UnaryOp .USub (.Constant (.int 1) k p1) p2)) p3) pos) (revM fa) :=
  (pe_back ha).imp fun σ H Q ⟨m, ev, hs, rs, hr, q⟩ => ⟨m, ev, hs, rs, hr, q.bind.mono fun x m1 hs1 H1 e1 hr1 q1 v rv => by
    obtain ⟨d, hs4, e, k⟩ := q1.lift
    unfold revD at e
    split at e
    · cases e
      obtain ⟨p, ws, rfl, h1, q2⟩ := rv_tup rv
      exact ⟨p, ws, rfl, .inr ⟨h1, fun l hl => Bk.tup (Q := Q) (fun m' H' v e hr r => k m' H' e hr v r) hr1 q2.reverse hl⟩⟩
    · split at e
      · rename_i xs el
        cases e
        obtain ⟨p, ws, rfl, h1, q2⟩ := list_of hr1 rv el
        exact ⟨p, ws, rfl, .inl ⟨h1, fun l hl => Bk.lst (Q := Q) (fun m' H' v e hr r => k m' H' e hr v r) hr1 q2.reverse hl⟩⟩
      · cases e⟩

/-! ### calls -/
def callM (f : List D → P D) (fs : Ev → M (List D)) : Ev → M D := fun e => M.bind (fs e) fun xs => M.lift (f xs)
theorem callM_ok {f : List D → P D} {σ : L2.St} {H : Hp} {Q : VK} (h : tE X.K X.mg W (callM f fs) σ H Q) : tCB (rPn X.K X.mg f) (tA X.K X.mg W fs) σ H Q := by
  obtain ⟨m, ev, hs, rs, hr, q⟩ := h
  refine ⟨m, ev, hs, rs, hr, q.bind.mono fun xs m1 hs1 H1 e1 hr1 q1 vs rvs => ?_⟩
  obtain ⟨d, hs2, e, k⟩ := q1.lift
  exact ⟨m1, hs1, xs, d, hs2, hr1, rvs, e, fun m' H' v e hr r => k m' H' e hr v r⟩
/-- a def's promise -/
def spD (K : PySem.W.Frag) (mg : Str → Option Value) (n : Nat) (f : List D → M D) : Sp := fun vs H Q E => ∃ m hs ds, HR K mg m hs H ∧ RVs K mg m H ds vs ∧ ds.length = n ∧ AfterM K mg (fun cls d _ H' => E cls d H') [] m H (f ds hs) fun d m' _ H' => ∀ v, RV K mg m' H' d v → Q v H'
def callF (n : Nat) (f : List D → M D) (fs : Ev → M (List D)) : Ev → M D := fun e => M.bind (fs e) fun xs => if xs.length = n then f xs else M.stuck
theorem AfterM.wish {K : PySem.W.Frag} {mg : Str → Option Value} {W W' : WX} {σ σ' : L2.St} {m : List Addr} {H : Hp} {α : Type} {r : Option (Except Ex α × Hs)} {Q : α → List Addr → Hs → Hp → Prop} (h : AfterM K mg W σ m H r Q) (hw : ∀ cls d H', W cls d σ H' → W' cls d σ' H') : AfterM K mg W' σ' m H r Q := by
  unfold AfterM at h ⊢
  split
  · exact h
  · exact fun m' H' cls d e hr q => hw _ _ _ (h m' H' cls d e hr q)
  · exact h
theorem de_call {x : Str} {p : Pos} {n k : Nat} {f : List D → M D} {g : Addr} {fd : FuncData} {ps : List Str} (F : FnG X.prog X.w X.K X.mg X.base (L2.CX X.prog X.w) k g fd ps (spD X.K X.mg n f)) (gd : X.A.guards = some []) (hr : Room k X.A) (hg : Gl X x)
    (hm : X.mg x = some (.ref g)) (hk : PySem.W.keepIn X.K (.ref g) = true) (hb : Binds X.K fd ps []) (tk : Takes X W) (ha : DA X W (a :: es) fs) (hdb : (x == ("__debug__" : Str)) = false)
    (he : starEach (a :: es) X.env = (false, eval a X.env) :: starEach es X.env) (hpl : (backTo pos (starEach es X.env)).any (·.1) = false) : DE X W (.Call (.Name x p) (a :: es) [] pos) (callF n f fs) := by
  refine ⟨fun pins s σ H Q I ⟨m, ev, hs, rs, hrr, q⟩ => wpAny_Call_Name_kw (ld_glob I hg hm (PySem.W.callWith_K (h₀ := X.base) I.ok.mod.kin hk (thn (ha.run pos pins s σ H (fun vs H1 => spD X.K X.mg n f vs H1 Q (fun cls d H' => W cls d σ H')) I
    ⟨m, ev, hs, rs, hrr, q.bind.mono fun xs m1 hs1 H1 e1 hr1 q1 vs rvs => ?_⟩) fun us s1 ⟨vs, H1, I1, r, q⟩ => ⟨I1.kIn, runG (E := WE W) F gd hr hb (passAt tk σ) I1 r q⟩) he hpl) hdb)⟩
  split at q1
  · rename_i hn
    exact ⟨m1, hs1, xs, hr1, rvs, hn, q1.wish fun _ _ _ h => h⟩
  · exact q1.elim
theorem de_call0 {x : Str} {p : Pos} {k : Nat} {f : List D → M D} {g : Addr} {fd : FuncData} {ps : List Str} (F : FnG X.prog X.w X.K X.mg X.base (L2.CX X.prog X.w) k g fd ps (spD X.K X.mg 0 f)) (gd : X.A.guards = some []) (hr : Room k X.A) (hg : Gl X x)
    (hm : X.mg x = some (.ref g)) (hk : PySem.W.keepIn X.K (.ref g) = true) (hb : Binds X.K fd ps []) (tk : Takes X W) (hdb : (x == ("__debug__" : Str)) = false) : DE X W (.Call (.Name x p) [] [] pos) (fun _ => f []) := by
  refine ⟨fun pins s σ H Q I ⟨m, ev, hs, rs, hrr, q⟩ => ?_⟩
  refine wpAny_Call_Name_kw (ld_glob I hg hm ?_ hdb)
  refine PySem.W.callWith_K0 I.kIn hk ?_
  exact runG (E := WE W) (us := []) (vs := []) F gd hr hb (passAt tk σ) I .nil ⟨m, hs, [], hrr, RVs.nil_iff.mpr rfl, rfl, q.wish fun _ _ _ h => h⟩
end
end DL
set_option Elab.async false
set_option linter.all false
set_option maxRecDepth 100000
set_option maxHeartbeats 4000000
namespace DL
open PySem PySem.Spec PyProof.Rows L2

/-! ## syntax that plain rules take -/
def notStar : Expr → Bool
  | .Starred .. => false
  | _ => true
def plainArgs : List Expr → Bool
  | [] => true
  | e :: es => notStar e && plainArgs es
theorem star_cons {e : Expr} {es : List Expr} {env : Env} (h : notStar e = true) : starEach (e :: es) env = (false, eval e env) :: starEach es env := by
  cases e <;> first | rfl | cases h
theorem any_plain {pos : Pos} {env : Env} : ∀ {es : List Expr}, plainArgs es = true → (backTo pos (starEach es env)).any (·.1) = false
  | [], _ => rfl
  | e :: es, h => by
    simp only [plainArgs, Bool.and_eq_true] at h
    rw [star_cons h.1]
    have ih := any_plain (pos := pos) (env := env) h.2
    simpa [backTo] using ih
theorem all_plain {pos : Pos} {env : Env} : ∀ {es : List Expr}, plainArgs es = true → (backTo pos (starEach es env)).all (fun x => !x.1) = true
  | [], _ => rfl
  | e :: es, h => by
    simp only [plainArgs, Bool.and_eq_true] at h
    rw [star_cons h.1]
    have ih := all_plain (pos := pos) (env := env) h.2
    simpa [backTo] using ih
def plainBase : Expr → Bool
  | .Call (.Name _ _) [] [] _ => false
  | _ => true
theorem base_plain {o : Expr} {f : Str} {env : Env} (h : plainBase o = true) : attributeBase o f env (eval o env) = eval o env := by
  unfold attributeBase
  split
  · simp [plainBase] at h
  · rfl
def plainIx : Expr → Bool
  | .Slice .. => false
  | _ => true
theorem ix_plain {b : Expr} (h : plainIx b = true) : PlainIx b := fun o i => by
  cases b <;> first | rfl | cases h
def plainMark : CmpOp → Expr → Bool
  | .In, .Set .. => false
  | .NotIn, .Set .. => false
  | _, _ => true
theorem mark_plain {op : CmpOp} {b : Expr} (h : plainMark op b = true) : behindInMarks op b = false := by
  by_cases h1 : op = .In
  · subst h1; cases b <;> first | rfl | cases h
  · by_cases h2 : op = .NotIn
    · subst h2; cases b <;> first | rfl | cases h
    · exact nobehind b h1 h2
theorem marks_plain {op op' : CmpOp} {b c : Expr} (h : plainMark op b = true) (h' : plainMark op' c = true) : lastMarks [op, op'] [b, c] = false := by
  have e := mark_plain h'
  simp [lastMarks, e]

/-! ## what is wanted behind a statement -/
section
variable (K : PySem.W.Frag) (mg : Str → Option Value)
def AfterS (W : WX) (m : List Addr) (H : Hp) (r : Option (Fl × Hs)) (D : Ends) : Prop :=
  match r with
  | some (.nx e, hs') => ∀ m' H' σ', Ext K m H m' H' → HR K mg m' hs' H' → RS K mg m' H' e σ' → D.nx σ' H'
  | some (.bk e, hs') => ∀ m' H' σ', Ext K m H m' H' → HR K mg m' hs' H' → RS K mg m' H' e σ' → D.bk σ' H'
  | some (.ct e, hs') => ∀ m' H' σ', Ext K m H m' H' → HR K mg m' hs' H' → RS K mg m' H' e σ' → D.ct σ' H'
  | some (.ret d, hs') => ∀ m' H' v, Ext K m H m' H' → HR K mg m' hs' H' → RV K mg m' H' d v → D.rt v H'
  | some (.exc x e, hs') => ∀ m' H' σ' cls d, Ext K m H m' H' → HR K mg m' hs' H' → RS K mg m' H' e σ' → RX K mg H' x cls d → W cls d σ' H'
  | none => False
def tS (W : WX) (g : Ev → S) : TS := fun D σ H => ∃ m ev hs, RS K mg m H ev σ ∧ HR K mg m hs H ∧ AfterS K mg W m H (g ev hs) D
end
section
variable {K : PySem.W.Frag} {mg : Str → Option Value} {W : WX} {σ : L2.St} {m m1 : List Addr} {H H1 : Hp} {α : Type}
theorem AfterS.from (e : Ext K m H m1 H1) {r : Option (Fl × Hs)} {D : Ends} (h : AfterS K mg W m H r D) : AfterS K mg W m1 H1 r D := by
  unfold AfterS at h ⊢
  split
  · exact fun m' H' σ' e' => h m' H' σ' (e.trans e')
  · exact fun m' H' σ' e' => h m' H' σ' (e.trans e')
  · exact fun m' H' σ' e' => h m' H' σ' (e.trans e')
  · exact fun m' H' σ' e' => h m' H' σ' (e.trans e')
  · exact fun m' H' σ' cls d e' => h m' H' σ' cls d (e.trans e')
  · exact h
/-- an expression, then on -/
def exprS (f : Ev → M α) (k : α → Ev → S) : Ev → S := fun e hs => match f e hs with
  | some (.ok a, h1) => k a e h1
  | some (.error x, h1) => some (.exc x e, h1)
  | none => none
theorem AfterS.expr {f : Ev → M α} {k : α → Ev → S} {e : Ev} {hs : Hs} {D : Ends} (rs : RS K mg m H e σ) (h : AfterS K mg W m H (exprS f k e hs) D) :
    AfterM K mg W σ m H (f e hs) fun a m1 hs1 H1 => AfterS K mg W m1 H1 (k a e hs1) D := by
  unfold exprS at h
  cases q : f e hs with
  | none => rw [q] at h; exact h.elim
  | some r =>
    obtain ⟨r, h1⟩ := r
    cases r with
    | ok a => rw [q] at h; exact fun m' H' e' hr => AfterS.from e' h
    | error x => rw [q] at h; exact fun m' H' cls d e' hr rx => h m' H' σ cls d e' hr (rs.mono e') rx
def seqS (g1 g2 : Ev → S) : Ev → S := fun e hs => match g1 e hs with
  | some (.nx e1, h1) => g2 e1 h1
  | r => r
theorem AfterS.seq {g1 g2 : Ev → S} {e : Ev} {hs : Hs} {D : Ends} (h : AfterS K mg W m H (seqS g1 g2 e hs) D) : AfterS K mg W m H (g1 e hs) { D with nx := tS K mg W g2 D } := by
  unfold seqS at h
  cases q : g1 e hs with
  | none => rw [q] at h; exact h
  | some r =>
    obtain ⟨r, h1⟩ := r
    cases r with
    | nx e1 => rw [q] at h; exact fun m' H' σ' e' hr rs => ⟨m', e1, h1, rs, hr, AfterS.from e' h⟩
    | _ => rw [q] at h; exact h
end
section
variable {X : Cx} {W : WX}
abbrev DS (X : Cx) (W : WX) (s : Stmt) (g : Ev → S) : Prop := PS X s (tS X.K X.mg W g)
abbrev DSs (X : Cx) (W : WX) (s : List Stmt) (g : Ev → S) : Prop := PSs X s (tS X.K X.mg W g)
theorem ds_no {s : Stmt} : DS X W s fun _ _ => none := ⟨fun _ _ _ _ _ _ ⟨_, _, _, _, _, h⟩ => h.elim⟩
theorem dss_no {s : List Stmt} : DSs X W s fun _ _ => none := ⟨fun _ _ _ _ _ _ ⟨_, _, _, _, _, h⟩ => h.elim⟩
def nextS : Ev → S := fun e hs => some (.nx e, hs)
theorem AfterS.next {K : PySem.W.Frag} {mg : Str → Option Value} {σ : L2.St} {m : List Addr} {H : Hp} {e : Ev} {hs : Hs} {D : Ends} (h : AfterS K mg W m H (nextS e hs) D) (hr : HR K mg m hs H) (rs : RS K mg m H e σ) : D.nx σ H := h m H σ .refl hr rs
variable {st : Stmt} {sts a b : List Stmt} {g g1 g2 : Ev → S} {e c : Expr} {fe : Ev → M D} {ft : Ev → M Bool} {pos : Pos}
theorem dss_nil : DSs X W [] nextS := pss_nil.imp fun D σ H ⟨m, ev, hs, rs, hr, q⟩ => q.next hr rs
theorem dss_cons (h1 : DS X W st g1) (h2 : DSs X W sts g2) : DSs X W (st :: sts) (seqS g1 g2) := (pss_cons h1 h2).imp fun D σ H ⟨m, ev, hs, rs, hr, q⟩ => ⟨m, ev, hs, rs, hr, q.seq⟩
theorem ds_pass : DS X W (.Pass pos) nextS := ps_pass.imp fun D σ H ⟨m, ev, hs, rs, hr, q⟩ => q.next hr rs
theorem ds_break : DS X W (.Break pos) fun e hs => some (.bk e, hs) := ps_break.imp fun D σ H ⟨m, ev, hs, rs, hr, q⟩ => q m H σ .refl hr rs
theorem ds_continue : DS X W (.Continue pos) fun e hs => some (.ct e, hs) := ps_continue.imp fun D σ H ⟨m, ev, hs, rs, hr, q⟩ => q m H σ .refl hr rs
def retS (f : Ev → M D) : Ev → S := exprS f fun d _ hs => some (.ret d, hs)
theorem ds_ret (he : DE X W e fe) : DS X W (.Return (some e) pos) (retS fe) := (ps_ret he).imp fun D σ H ⟨m, ev, hs, rs, hr, q⟩ => ⟨m, ev, hs, rs, hr, (q.expr rs).mono fun d m1 hs1 H1 e1 hr1 q1 v rv => q1 m1 H1 v .refl hr1 rv⟩
theorem ds_retN : DS X W (.Return none pos) fun _ hs => some (.ret .non, hs) := ps_retN.imp fun D σ H ⟨m, ev, hs, rs, hr, q⟩ => q m H .non .refl hr mk_non
def dropS (f : Ev → M D) : Ev → S := exprS f fun _ => nextS
theorem ds_expr (he : DE X W e fe) (hs : swapsWith e none pos.line X.env = pure false) : DS X W (.Expr e pos) (dropS fe) := (ps_expr he hs).imp fun D σ H ⟨m, ev, hs, rs, hr, q⟩ => ⟨m, ev, hs, rs, hr, (q.expr rs).mono fun d m1 hs1 H1 e1 hr1 q1 v rv => q1.next hr1 (rs.mono e1)⟩
def ifS (f : Ev → M Bool) (g1 g2 : Ev → S) : Ev → S := exprS f fun k => if k = true then g1 else g2
theorem ds_if (hc : DT X W c ft) (ha : DSs X W a g1) (hb : DSs X W b g2) : DS X W (.If c a b pos) (ifS ft g1 g2) := (ps_if hc ha hb).imp fun D σ H ⟨m, ev, hs, rs, hr, q⟩ => ⟨m, ev, hs, rs, hr, (q.expr rs).mono fun k m1 hs1 H1 e1 hr1 q1 => by
  cases k with
  | true => exact ⟨m1, ev, hs1, rs.mono e1, hr1, q1⟩
  | false => exact ⟨m1, ev, hs1, rs.mono e1, hr1, q1⟩⟩

/-! ### targets -/
inductive Tg where
  | one (i : Nat) | many (is : List Nat)
def sets (e : Ev) : List Nat → List D → Ev
  | i :: is, d :: ds => sets (e.set i (some d)) is ds
  | _, _ => e
def setsV (σ : L2.St) : List Nat → List V → L2.St
  | i :: is, v :: vs => setsV (σ.set i (some v)) is vs
  | _, _ => σ
def asg (t : Tg) (d : D) (e : Ev) : Option Ev := match t, d with
  | .one i, d => some (e.set i (some d))
  | .many is, .tup ds => if is.length = ds.length then some (sets e is ds) else none
  | .many _, _ => none
def Tg.slots : Tg → List Nat
  | .one i => [i]
  | .many is => is
/-- a store, by slots -/
def gD (K : PySem.W.Frag) (mg : Str → Option Value) (t : Tg) : TG := fun v σ H Q => ∃ m ev d e2, RS K mg m H ev σ ∧ RV K mg m H d v ∧ asg t d ev = some e2 ∧ ∀ is vs, t.slots = is → RS K mg m H e2 (setsV σ is vs) → Q (setsV σ is vs) H
theorem RS.set {K : PySem.W.Frag} {mg : Str → Option Value} {m : List Addr} {H : Hp} {e : Ev} {σ : L2.St} {d : D} {v : V} (h : RS K mg m H e σ) (r : RV K mg m H d v) (i : Nat) : RS K mg m H (e.set i (some d)) (σ.set i (some v)) := by
  refine ⟨by simp [h.len], fun j c q => ?_⟩
  by_cases hj : i = j
  · subst hj
    by_cases hl : i < e.length
    · rw [List.getElem?_set_self hl] at q
      cases q
      exact ⟨v, by rw [List.getElem?_set_self (by rw [← h.len]; exact hl)], r⟩
    · rw [List.getElem?_eq_none (by simpa using hl)] at q; cases q
  · rw [List.getElem?_set_ne hj] at q
    obtain ⟨w, h1, h2⟩ := h.at_ j c q
    exact ⟨w, by rw [List.getElem?_set_ne hj]; exact h1, h2⟩
theorem RS.sets {K : PySem.W.Frag} {mg : Str → Option Value} {m : List Addr} {H : Hp} : ∀ {is : List Nat} {ds : List D} {vs : List V} {e : Ev} {σ : L2.St}, RS K mg m H e σ → RVs K mg m H ds vs → RS K mg m H (sets e is ds) (setsV σ is vs)
  | [], [], _, _, _, h, r => by rw [RVs.nil_iff] at r; subst r; exact h
  | [], d :: ds, _, _, _, h, r => by obtain ⟨v, w, rfl, _, _⟩ := RVs.cons_iff.mp r; exact h
  | i :: is, [], _, _, _, h, r => by rw [RVs.nil_iff] at r; subst r; exact h
  | i :: is, d :: ds, _, e, σ, h, r => by
    obtain ⟨v, w, rfl, r1, r2⟩ := RVs.cons_iff.mp r
    show RS K mg m H (DL.sets (e.set i (some d)) is ds) (setsV (σ.set i (some v)) is w)
    exact RS.sets (h.set r1 i) r2
theorem each_len {env : Env} : ∀ {es : List Expr}, (assignEach es env).length = es.length
  | [] => rfl
  | e :: es => by cases e <;> simp [assignEach, each_len (es := es)]
theorem each_plain {env : Env} : ∀ {es : List Expr}, plainArgs es = true → (assignEach es env).findIdx? (·.1) = none
  | [], _ => rfl
  | e :: es, h => by
    simp only [plainArgs, Bool.and_eq_true] at h
    have ih := each_plain (env := env) h.2
    cases e <;> first | (simp [notStar] at h; done) | (simp only [assignEach, List.findIdx?_cons, ih]; rfl)
/-- a name's place, where it may be stored -/
def gNames : List Nat → TGs
  | [] => gNil
  | i :: is => gCons (gName i) (gNames is)
theorem gNames_ok : ∀ {is : List Nat} {vs : List V} {σ : L2.St} {H : Hp} {Q : L2.St → Hp → Prop}, is.length = vs.length → Q (setsV σ is vs) H → gNames is vs σ H Q
  | [], [], _, _, _, _, q => ⟨rfl, q⟩
  | [], _ :: _, _, _, _, h, _ => by simp at h
  | _ :: _, [], _, _, _, h, _ => by simp at h
  | i :: is, v :: vs, σ, H, Q, h, q => ⟨v, vs, rfl, gNames_ok (is := is) (vs := vs) (by simpa using h) q⟩
theorem pg_one {tg : Expr} {i : Nat} (h : PG X tg (gName i)) : PG X tg (gD X.K X.mg (.one i)) := by
  refine ⟨fun pins s σ H v u Q I r ⟨m, ev, d, e2, rs, rv, ea, k⟩ => h.run pins s σ H v u Q I r ?_⟩
  cases ea
  exact k [i] [v] rfl (rs.set rv i)
theorem pg_many {es : List Expr} {k : Nat} {is : List Nat} (hc : X.calm = true) (h : PGs X es (gNames is)) (hl : es.length = is.length) (hp : plainArgs es = true) : PG X (.Tuple es k pos) (gD X.K X.mg (.many is)) := by
  have h1 : (assignEach es X.env).length = is.length := by rw [← hl, each_len]
  have q := pg_tup (k := k) (pos := pos) (n := is.length) hc h h1 (each_plain hp)
  refine ⟨fun pins s σ H v u Q I r ⟨m, ev, d, e2, rs, rv, ea, kk⟩ => q.run pins s σ H v u Q I r ?_⟩
  cases d with
  | tup ds =>
    simp only [asg] at ea
    split at ea
    · rename_i hlen
      cases ea
      obtain ⟨a, vs, rfl, h2, h3⟩ := rv_tup rv
      exact ⟨a, vs, rfl, h2, by rw [← h3.length, hlen], gNames_ok (by rw [← h3.length, hlen]) (kk is vs rfl (rs.sets h3))⟩
    · cases ea
  | _ => simp only [asg] at ea; cases ea

/-! ### assignments -/
variable {es : List Expr} {fs : Ev → M (List D)}
/-- target = value: a name, names -/
def asgS (t : Tg) (f : Ev → M D) : Ev → S := exprS f fun d e hs => match asg t d e with
  | some e2 => some (.nx e2, hs)
  | none => none
theorem asgS_ok {t : Tg} {f : Ev → M D} {D : Ends} {σ : L2.St} {H : Hp} (h : tS X.K X.mg W (asgS t f) D σ H) : tAsg (tE X.K X.mg W f) (gD X.K X.mg t) D σ H := by
  obtain ⟨m, ev, hs, rs, hr, q⟩ := h
  refine ⟨m, ev, hs, rs, hr, (q.expr rs).mono fun d m1 hs1 H1 e1 hr1 q1 v rv => ?_⟩
  cases ea : asg t d ev with
  | none => rw [ea] at q1; exact q1.elim
  | some e2 =>
    rw [ea] at q1
    exact ⟨m1, ev, d, e2, rs.mono e1, rv, ea, fun is vs _ r2 => q1 m1 H1 _ .refl hr1 r2⟩
theorem ds_asg {tg : Expr} {t : Tg} (he : DE X W e fe) (hg : PG X tg (gD X.K X.mg t)) (hs : swapsWithSole [tg] e pos.line X.env = pure false) (hw : swappedStores [tg] e X.env = pure none) (h1 : (assignEach [tg] X.env).map (·.2) = [assign tg X.env]) : DS X W (.Assign [tg] e pos) (asgS t fe) :=
  (ps_asg he hg hs hw h1).imp fun _ _ _ h => asgS_ok h
/-- a, b = x, y -/
def parS (is : List Nat) (f : Ev → M (List D)) : Ev → S := exprS f fun ds e hs => if is.length = ds.length then some (.nx (sets e is ds), hs) else none
theorem ds_par2 {i j : Nat} {x y : Str} {a b : Expr} {px py pt : Pos} {kt k2 : Nat} {pt2 : Pos} (ha : DA X W [a, b] fs) (h : ∀ {ta : TA}, PA X [a, b] ta → PS X (.Assign [.Tuple [.Name x px, .Name y py] kt pt] (.Tuple [a, b] k2 pt2) pos) (tPar i j ta)) :
    DS X W (.Assign [.Tuple [.Name x px, .Name y py] kt pt] (.Tuple [a, b] k2 pt2) pos) (parS [i, j] fs) := (h ha).imp fun D σ H ⟨m, ev, hs, rs, hr, q⟩ => ⟨m, ev, hs, rs, hr, (q.expr rs).mono fun ds m1 hs1 H1 e1 hr1 q1 vs rvs => by
  split at q1
  · rename_i hl
    have hl2 := rvs.length
    match ds, vs, hl, rvs with
    | [d1, d2], vs, _, rvs =>
      obtain ⟨v, w, rfl, r1, r2⟩ := rvs2 rvs
      exact ⟨v, w, rfl, q1 m1 H1 _ .refl hr1 ((rs.mono e1).sets (is := [i, j]) rvs)⟩
  · exact q1.elim⟩
theorem ds_par3 {i j l : Nat} {x y z : Str} {a b c : Expr} {px py pz pt : Pos} {kt k2 : Nat} {pt2 : Pos} (ha : DA X W [a, b, c] fs) (h : ∀ {ta : TA}, PA X [a, b, c] ta → PS X (.Assign [.Tuple [.Name x px, .Name y py, .Name z pz] kt pt] (.Tuple [a, b, c] k2 pt2) pos) (tPar3 i j l ta)) :
    DS X W (.Assign [.Tuple [.Name x px, .Name y py, .Name z pz] kt pt] (.Tuple [a, b, c] k2 pt2) pos) (parS [i, j, l] fs) := (h ha).imp fun D σ H ⟨m, ev, hs, rs, hr, q⟩ => ⟨m, ev, hs, rs, hr, (q.expr rs).mono fun ds m1 hs1 H1 e1 hr1 q1 vs rvs => by
  split at q1
  · rename_i hl
    match ds, vs, hl, rvs with
    | [d1, d2, d3], vs, _, rvs =>
      have q2 := rvs
      obtain ⟨v, r, rfl, r1, r2⟩ := RVs.cons_iff.mp rvs
      obtain ⟨u, w, rfl, r3, r4⟩ := rvs2 r2
      exact ⟨v, u, w, rfl, q1 m1 H1 _ .refl hr1 ((rs.mono e1).sets (is := [i, j, l]) q2)⟩
  · exact q1.elim⟩
/-! stores to an item -/
def setIxD (o i v : D) : P D := fun hs => match o, i with
  | .loc n, .int k => match hs[n]? with
    | some (.lst xs) => match ixN xs.length k with
      | some j => some (.non, hs.set n (.lst (xs.set j v)))
      | none => none
    | _ => none
  | _, _ => none
def rSet (K : PySem.W.Frag) (mg : Str → Option Value) : V → V → V → Hp → (Hp → Prop) → Prop := fun o i v H Q => ∃ m hs a b c hs', HR K mg m hs H ∧ RV K mg m H a o ∧ RV K mg m H b i ∧ RV K mg m H c v ∧ setIxD a b c hs = some (.non, hs') ∧ ∀ m' H', Ext K m H m' H' → HR K mg m' hs' H' → Q H'
theorem setIx_ok : PSet X (rSet X.K X.mg) := by
  intro pins s σ H o i v ov iv u Q I ro ri rv h
  obtain ⟨m, hs, a, b, c, hs', hr, ra, rb, rc, hf, k⟩ := h
  unfold setIxD at hf
  split at hf
  · rename_i n j
    obtain ⟨p, rfl, hm⟩ := rv_loc ra
    obtain rfl := rv_int rb
    split at hf
    · rename_i xs e
      split at hf
      · rename_i jj ej
        cases hf
        obtain ⟨vs, h1, h2⟩ := hr.lst_at hm e
        refine set_list pins s σ H _ _ _ ov iv u Q I ro ri rv ⟨p, vs, _, jj, rfl, rfl, h1, by rw [← h2.length]; exact ej, ?_⟩
        have x := Ext.write (K := X.K) (u := .lst (vs.set jj v)) hm h1 lst_plain
        exact k m _ x (hr.write hm h1 lst_plain ⟨_, upd_same, (h2.mono x).set jj (rc.mono x)⟩)
      · cases hf
    · cases hf
  · cases hf
/-- o[i] = value: the value first -/
def setS (f fo fi : Ev → M D) : Ev → S := exprS f fun v => exprS fo fun o => exprS fi fun i e hs => match setIxD o i v hs with
  | some (.non, h1) => some (.nx e, h1)
  | _ => none
variable {fo fi : Ev → M D} {o i : Expr}
theorem ds_setIx {p2 : Pos} (he : DE X W e fe) (ho : DE X W o fo) (hi : DE X W i fi) (hp : plainIx i = true) (hs : swapsWithSole [.Subscript o i p2] e pos.line X.env = pure false) : DS X W (.Assign [.Subscript o i p2] e pos) (setS fe fo fi) := by
  refine (ps_asg he (pg_sub ho hi setIx_ok (fun v => ?_)) hs rfl).imp fun D σ H ⟨m, ev, hs, rs, hr, q⟩ => ⟨m, ev, hs, rs, hr, (q.expr rs).mono fun d m1 hs1 H1 e1 hr1 q1 v rv => ?_⟩
  · cases i <;> first | rfl | cases hp
  · refine ⟨m1, ev, hs1, rs.mono e1, hr1, (q1.expr (rs.mono e1)).mono fun a m2 hs2 H2 e2 hr2 q2 w rw => ?_⟩
    refine ⟨m2, ev, hs2, (rs.mono e1).mono e2, hr2, (q2.expr ((rs.mono e1).mono e2)).mono fun b m3 hs3 H3 e3 hr3 q3 z rz => ?_⟩
    cases ef : setIxD a b d hs3 with
    | none => rw [ef] at q3; exact q3.elim
    | some r =>
      obtain ⟨x, h4⟩ := r
      rw [ef] at q3
      cases x with
      | non => exact ⟨m3, hs3, a, b, d, h4, hr3, rw.mono e3, rz, (rv.mono e2).mono e3, ef, fun m' H' x hr => q3 m' H' σ x hr ((((rs.mono e1).mono e2).mono e3).mono x)⟩
      | _ => exact q3.elim
/-- x op= e, x a name -/
def augD : Operator → D → D → P D
  | .Add => fun a b => match a, b with
    | .int i, .int j => P.pure (.int (i + j))
    | .str x, .str y => if x.length + y.length ≤ sizeLine then P.pure (.str (x ++ y)) else P.stuck
    | _, _ => P.stuck
  | .Sub => subD
  | .Mult => fun a b => match a, b with
    | .int i, .int j => if ((-(2 ^ 64) < i ∧ i < 2 ^ 64) ∨ (-(2 ^ 64) < j ∧ j < 2 ^ 64)) then P.pure (.int (i * j)) else P.stuck
    | _, _ => P.stuck
  | .FloorDiv => fun a b => match a, b with
    | .int i, .int j => if 0 < j ∧ j < 1073741824 then P.pure (.int (i / j)) else P.stuck
    | _, _ => P.stuck
  | _ => fun _ _ => P.stuck
theorem augD_ok (op : Operator) : OpR X (inplaceOp op) (rP2 X.K X.mg (augD op)) := by
  intro pins s σ H x y v u Q I rx ry h
  obtain ⟨m, hs, a, b, d, hs', hr, ra, rb, hf, k⟩ := h
  cases op <;> simp only [augD] at hf <;> try exact (stuck_no hf).elim
  · split at hf
    · cases hf
      obtain rfl := rv_int ra
      obtain rfl := rv_int rb
      exact iop_add pins s σ H _ _ v u Q I rx ry ⟨_, _, rfl, rfl, k.here hr mk_int⟩
    · split at hf
      · rename_i hz
        cases hf
        obtain rfl := rv_str ra
        obtain rfl := rv_str rb
        exact iop_add_str pins s σ H _ _ v u Q I rx ry ⟨_, _, rfl, rfl, hz, k.here hr mk_str⟩
      · exact (stuck_no hf).elim
    · exact (stuck_no hf).elim
  · unfold subD at hf
    split at hf
    · cases hf
      obtain rfl := rv_int ra
      obtain rfl := rv_int rb
      exact iop_sub pins s σ H _ _ v u Q I rx ry ⟨_, _, rfl, rfl, k.here hr mk_int⟩
    · exact (stuck_no hf).elim
  · split at hf
    · split at hf
      · rename_i hz
        cases hf
        obtain rfl := rv_int ra
        obtain rfl := rv_int rb
        exact iop_mul pins s σ H _ _ v u Q I rx ry ⟨_, _, rfl, rfl, hz, k.here hr mk_int⟩
      · exact (stuck_no hf).elim
    · exact (stuck_no hf).elim
  · split at hf
    · split at hf
      · rename_i hz
        cases hf
        obtain rfl := rv_int ra
        obtain rfl := rv_int rb
        exact iop_fdiv pins s σ H _ _ v u Q I rx ry ⟨_, _, rfl, rfl, hz, k.here hr mk_int⟩
      · exact (stuck_no hf).elim
    · exact (stuck_no hf).elim
def augS (op : Operator) (n : Nat) (f : Ev → M D) : Ev → S := exprS (varD n) fun x => exprS f fun y e hs => match augD op x y hs with
  | some (z, h1) => some (.nx (e.set n (some z)), h1)
  | none => none
theorem ds_aug {op : Operator} {x : Str} {n : Nat} {p2 : Pos} (he : DE X W e fe) (h : ∀ {te : TE} {ti : TIp}, PE X e te → PIp X op ti → PS X (.AugAssign (.Name x p2) op e pos) (tAug n te ti)) : DS X W (.AugAssign (.Name x p2) op e pos) (augS op n fe) := by
  refine (h he (fun pins s σ H x y v u Q I rx ry q => augD_ok op pins s σ H x y v u Q I rx ry q)).imp fun D σ H ⟨m, ev, hs, rs, hr, q⟩ => ?_
  have q1 := q.expr rs
  unfold varD at q1
  cases e0 : ev[n]? with
  | none => rw [e0] at q1; exact q1.elim
  | some o =>
    cases o with
    | none => rw [e0] at q1; exact q1.elim
    | some d =>
      rw [e0] at q1
      obtain ⟨v, e1, r⟩ := rs.at_ n d e0
      refine ⟨v, e1, m, ev, hs, rs, hr, ((q1.pure hr).expr rs).mono fun b m2 hs2 H2 e2 hr2 q2 w rw => ?_⟩
      cases ef : augD op d b hs2 with
      | none => rw [ef] at q2; exact q2.elim
      | some rr =>
        obtain ⟨z, h3⟩ := rr
        rw [ef] at q2
        exact ⟨m2, hs2, d, b, z, h3, hr2, r.mono e2, rw, ef, fun m' H' u x hr' ru => q2 m' H' _ x hr' (((rs.mono e2).mono x).set ru n)⟩
end
end DL
set_option Elab.async false
set_option linter.all false
set_option maxRecDepth 100000
set_option maxHeartbeats 4000000
namespace DL
open PySem PySem.Spec PyProof.Rows L2 RZ

/-! ## what is walked -/
structure Src where
  items : List D
  /-- what must stay so from turn to turn -/
  ok : Hs → Prop
section
variable (K : PySem.W.Frag) (mg : Str → Option Value)
structure JOk (J : It) (src : Src) (m0 : List Addr) (H0 : Hp) : Prop where
  go : ∀ i m hs H, i < src.items.length → Wk K m0 H0 m H → HR K mg m hs H → src.ok hs → J.go i H
  yl : ∀ i m hs H x H', Wk K m0 H0 m H → HR K mg m hs H → src.ok hs → J.yld i H x H' → i < src.items.length → ∃ d, src.items[i]? = some d ∧ Ext K m H m H' ∧ HR K mg m hs H' ∧ RV K mg m H' d x
  st : ∀ m hs H, Wk K m0 H0 m H → HR K mg m hs H → src.ok hs → J.stop src.items.length H
def tI (W : WX) (f : Ev → M Src) : TI := fun σ H R => ∃ m ev hs, RS K mg m H ev σ ∧ HR K mg m hs H ∧ AfterM K mg W σ m H (f ev hs) fun src m' _ H' => ∀ J, JOk K mg J src m' H' → R J H'
end
section
variable {X : Cx} {W : WX}
abbrev DI (X : Cx) (W : WX) (tg e : Expr) (f : Ev → M Src) : Prop := PI X tg e (tI X.K X.mg W f)
theorem _root_.L2.PI.imp {tg e : Expr} {t t' : TI} (h : PI X tg e t) (hi : ∀ σ H R, t' σ H R → t σ H R) : PI X tg e t' := ⟨fun pins s σ H R I q => h.run pins s σ H R I (hi σ H R q)⟩
theorem di_no {tg e : Expr} : DI X W tg e fun _ => M.stuck := ⟨fun _ _ _ _ _ _ ⟨_, _, _, _, _, h⟩ => h.elim⟩
/-- a list or a tuple -/
def signs (x : Str) : List D := x.cps.toList.map fun c => D.str ⟨#[c]⟩
theorem signs_len {x : Str} : (signs x).length = x.cps.size := by simp [signs]
theorem signs_get {x : Str} {i c : Nat} (h : x.cps[i]? = some c) : (signs x)[i]? = some (.str ⟨#[c]⟩) := by
  unfold signs
  rw [List.getElem?_map, Array.getElem?_toList, h]
  rfl
def seqSrc (d : D) : M Src := fun hs => match d with
  | .str x => some (.ok ⟨signs x, fun _ => True⟩, hs)
  | .tup xs => some (.ok ⟨xs, fun _ => True⟩, hs)
  | .frl xs => some (.ok ⟨xs, fun _ => True⟩, hs)
  | .loc n => match hs[n]? with
    | some (.lst xs) => some (.ok ⟨xs, fun h => h[n]? = some (.lst xs)⟩, hs)
    | _ => none
  | _ => none
theorem jok_list {K : PySem.W.Frag} {mg : Str → Option Value} {m0 : List Addr} {H0 : Hp} {a : Addr} {src : Src} (h : ∀ m hs H, Wk K m0 H0 m H → HR K mg m hs H → src.ok hs → ∃ vs, SqL K H a vs ∧ RVs K mg m H src.items vs) : JOk K mg (Itl K a) src m0 H0 where
  go := fun i m hs H hi e hr ok => by
    obtain ⟨vs, h1, h2⟩ := h m hs H e hr ok
    obtain ⟨d, hd⟩ : ∃ d, src.items[i]? = some d := ⟨src.items[i], by simp [hi]⟩
    obtain ⟨v, hv, _⟩ := h2.get hd
    exact ⟨vs, v, h1, hv⟩
  yl := fun i m hs H x H' e hr ok y hi => by
    obtain ⟨vs, h1, h2⟩ := h m hs H e hr ok
    obtain ⟨rfl, y⟩ := y
    obtain ⟨d, hd, r⟩ := h2.get' (y vs h1)
    exact ⟨d, hd, .refl, hr, r⟩
  st := fun m hs H e hr ok => by
    obtain ⟨vs, h1, h2⟩ := h m hs H e hr ok
    exact ⟨vs, h1, Nat.le_of_eq h2.length.symm⟩
theorem jok_tup {K : PySem.W.Frag} {mg : Str → Option Value} {m0 : List Addr} {H0 : Hp} {a : Addr} {src : Src} (h : ∀ m hs H, Wk K m0 H0 m H → HR K mg m hs H → src.ok hs → ∃ vs, SqT K H a vs ∧ RVs K mg m H src.items vs) : JOk K mg (Itt K a) src m0 H0 where
  go := fun i m hs H hi e hr ok => by
    obtain ⟨vs, h1, h2⟩ := h m hs H e hr ok
    obtain ⟨d, hd⟩ : ∃ d, src.items[i]? = some d := ⟨src.items[i], by simp [hi]⟩
    obtain ⟨v, hv, _⟩ := h2.get hd
    exact ⟨vs, v, h1, hv⟩
  yl := fun i m hs H x H' e hr ok y hi => by
    obtain ⟨vs, h1, h2⟩ := h m hs H e hr ok
    obtain ⟨rfl, y⟩ := y
    obtain ⟨d, hd, r⟩ := h2.get' (y vs h1)
    exact ⟨d, hd, .refl, hr, r⟩
  st := fun m hs H e hr ok => by
    obtain ⟨vs, h1, h2⟩ := h m hs H e hr ok
    exact ⟨vs, h1, Nat.le_of_eq h2.length.symm⟩
theorem SqF.keep {K : PySem.W.Frag} {m m' : List Addr} {H H' : Hp} {a : Addr} {xs : List V} (h : SqF K H a xs) (e : Wk K m H m' H') : SqF K H' a xs := by
  rcases h with ⟨o, h⟩ | h
  · exact .inl ⟨o, e.frz _ _ _ h⟩
  · exact .inr h
theorem jok_str {K : PySem.W.Frag} {mg : Str → Option Value} {m0 : List Addr} {H0 : Hp} {x : Str} {ok : Hs → Prop} : JOk K mg (Its x) ⟨signs x, ok⟩ m0 H0 where
  go := fun i m hs H hi _ _ _ => by
    have h : i < x.cps.size := by simpa [signs_len] using hi
    exact h
  yl := fun i m hs H v H' _ hr _ y hi => by
    obtain ⟨rfl, c, hc, rfl⟩ := y
    exact ⟨_, signs_get hc, .refl, hr, mk_str⟩
  st := fun _ _ _ _ _ _ => by
    show x.cps.size ≤ (signs x).length
    rw [signs_len]; exact Nat.le_refl _
theorem di_seq {tg l : Expr} {f : Ev → M D} (hl : DE X W l f) : DI X W tg l fun e => M.bind (f e) seqSrc := by
  refine ⟨fun pins s σ H R I ⟨m, ev, hs, rs, hr, q⟩ => ?_⟩
  refine thn (hl.run pins s σ H (fun x H1 => (∃ a, x = .ref a ∧ (∃ xs, SqL X.K H1 a xs) ∧ R (Itl X.K a) H1) ∨ (∃ a, x = .ref a ∧ (∃ xs, SqT X.K H1 a xs) ∧ R (Itt X.K a) H1) ∨ ∃ z, x = .str z ∧ R (Its z) H1) I
    ⟨m, ev, hs, rs, hr, q.bind.mono fun d m1 hs1 H1 e1 hr1 q1 v rv => ?_⟩) fun v s1 ⟨x, H1, I1, r1, q1⟩ => ?_
  · cases d with
    | str z =>
      obtain rfl := rv_str rv
      exact .inr (.inr ⟨z, rfl, q1 m1 H1 .refl hr1 _ jok_str⟩)
    | tup xs =>
      obtain ⟨a, vs, rfl, h1, h2⟩ := rv_tup rv
      refine .inr (.inl ?_)
      exact ⟨a, rfl, ⟨vs, h1⟩, q1 m1 H1 .refl hr1 _ (jok_tup fun m' hs' H' e' _ _ => ⟨vs, e'.tup _ _ h1, h2.monoW e'⟩)⟩
    | frl xs =>
      obtain ⟨a, vs, rfl, h1, h2⟩ := rv_frl rv
      exact .inl ⟨a, rfl, ⟨vs, h1.sql⟩, q1 m1 H1 .refl hr1 _ (jok_list fun m' hs' H' e' _ _ => ⟨vs, (h1.keep e').sql, h2.monoW e'⟩)⟩
    | loc n =>
      obtain ⟨a, rfl, hm⟩ := rv_loc rv
      simp only [seqSrc] at q1
      cases e : hs1[n]? with
      | none => rw [e] at q1; exact q1.elim
      | some o =>
        rw [e] at q1
        cases o with
        | lst xs =>
          obtain ⟨vs, h1, h2⟩ := hr1.lst_at hm e
          refine .inl ⟨a, rfl, ⟨vs, SqL.of h1⟩, q1 m1 H1 .refl hr1 _ (jok_list fun m' hs' H' e' hr' ok => ?_)⟩
          obtain ⟨ws, h3, h4⟩ := hr'.lst_at (e'.loc hm) ok
          exact ⟨ws, SqL.of h3, h4⟩
        | dct _ => exact q1.elim
        | ins _ _ => exact q1.elim
        | set _ => exact q1.elim
    | _ => exact q1.elim
  · rcases q1 with ⟨a, rfl, ⟨xs, hq⟩, q⟩ | ⟨a, rfl, ⟨xs, hq⟩, q⟩ | ⟨z, rfl, q⟩
    rotate_left 2
    · obtain ⟨t, rfl⟩ := r1
      cases ha : z.cps.all (· < 128)
      · exact wpAny_pyIter_wide ha (pi_one (tk := s1.toks) I1 _ (turn_str _ z t "str_iterator" (.inr rfl)) ⟨_, Heap.get?_push_size _ rfl, rfl, rfl⟩ q)
      · exact wpAny_pyIter_ascii ha (pi_one (tk := s1.toks) I1 _ (turn_str _ z t "str_ascii_iterator" (.inl rfl)) ⟨_, Heap.get?_push_size _ rfl, rfl, rfl⟩ q)
    · cases r1
      obtain ⟨its, rv, p, hz⟩ := I1.list hq
      refine wpAny_pyIter_list p.isList ?_
      refine ⟨s1.heap.objs.size, [s1.heap.objs.size], _, _, H1, rfl, I1.kept (t' := s1.toks) fun b o e => Heap.get?_push_of_some _ e, turn_list a _, ⟨_, Heap.get?_push_size _ rfl, rfl, rfl⟩, fun b hb => ?_, q⟩
      have e : b = s1.heap.objs.size := by simpa using hb
      subst e
      exact I1.fpOk (Nat.le_refl _) (I1.hok.fresh (Nat.le_refl _))
    · cases r1
      obtain ⟨its, rv, p, hz⟩ := I1.tuple hq
      refine wpAny_pyIter_tuple (show s1.heap.IsTuple a its.toArray from p) ?_
      refine ⟨s1.heap.objs.size, [s1.heap.objs.size], _, _, H1, rfl, I1.kept (t' := s1.toks) fun b o e => Heap.get?_push_of_some _ e, turn_tuple a _, ⟨_, Heap.get?_push_size _ rfl, rfl, rfl⟩, fun b hb => ?_, q⟩
      have e : b = s1.heap.objs.size := by simpa using hb
      subst e
      exact I1.fpOk (Nat.le_refl _) (I1.hok.fresh (Nat.le_refl _))
/-! ranges -/
def intL (lo : Int) (n : Nat) : List D := (List.range n).map fun (i : Nat) => D.int (lo + i)
theorem intL_get {lo : Int} {n i : Nat} (h : i < n) : (intL lo n)[i]? = some (.int (lo + i)) := by
  unfold intL
  rw [List.getElem?_map, List.getElem?_range h]
  rfl
theorem intL_len {lo : Int} {n : Nat} : (intL lo n).length = n := by simp [intL]
def rngSrc (ds : List D) : M Src := fun hs => match ds with
  | [.int j] => if -(2 ^ 62) ≤ j ∧ j < 2 ^ 62 then some (.ok ⟨intL 0 j.toNat, fun _ => True⟩, hs) else none
  | [.int i, .int j] => if (-(2 ^ 62) ≤ i ∧ i < 2 ^ 62) ∧ (-(2 ^ 62) ≤ j ∧ j < 2 ^ 62) then some (.ok ⟨intL i (j - i).toNat, fun _ => True⟩, hs) else none
  | _ => none
theorem jok_range {K : PySem.W.Frag} {mg : Str → Option Value} {m0 : List Addr} {H0 : Hp} {lo : Int} {n : Nat} {ok : Hs → Prop} : JOk K mg (Itr lo n) ⟨intL lo n, ok⟩ m0 H0 where
  go := fun i m hs H hi _ _ _ => by have h : i < n := by simpa [intL_len] using hi
                                    exact h
  yl := fun i m hs H x H' _ hr _ y hi => by
    obtain ⟨rfl, rfl⟩ := y
    exact ⟨_, intL_get (by simpa [intL_len] using hi), .refl, hr, mk_int⟩
  st := fun _ _ _ _ _ _ => by simp [intL_len, Itr]
variable {a b : Expr} {fs : Ev → M (List D)} {p pos : Pos}
theorem di_range1 {tg : Expr} (hg : Gl X "range") (hm : X.mg "range" = none) (ha : DA X W [a] fs) (hp : notStar a = true) : DI X W tg (.Call (.Name "range" p) [a] [] pos) fun e => M.bind (fs e) fun xs => if xs.length = 1 then rngSrc xs else M.stuck :=
  (pi_range1 hg hm ha (by rw [star_cons hp]; rfl)).imp fun σ H R ⟨m, ev, hs, rs, hr, q⟩ => ⟨m, ev, hs, rs, hr, q.bind.mono fun xs m1 hs1 H1 e1 hr1 q1 vs rvs => by
    split at q1
    · unfold rngSrc at q1
      split at q1
      · split at q1
        · rename_i hj
          obtain ⟨v, rfl, r1⟩ := rvs1 rvs
          obtain rfl := rv_int r1
          exact ⟨_, rfl, hj.1, hj.2, q1 m1 H1 .refl hr1 _ jok_range⟩
        · exact q1.elim
      · rename_i hl; simp at hl
      · exact q1.elim
    · exact q1.elim⟩
theorem di_range2 {tg : Expr} (hg : Gl X "range") (hm : X.mg "range" = none) (ha : DA X W [a, b] fs) (hp : notStar a = true) (hq : notStar b = true) : DI X W tg (.Call (.Name "range" p) [a, b] [] pos) fun e => M.bind (fs e) fun xs => if xs.length = 2 then rngSrc xs else M.stuck :=
  (pi_range2 hg hm ha (by rw [star_cons hp, star_cons hq]; rfl) (by rw [star_cons hq]; rfl)).imp fun σ H R ⟨m, ev, hs, rs, hr, q⟩ => ⟨m, ev, hs, rs, hr, q.bind.mono fun xs m1 hs1 H1 e1 hr1 q1 vs rvs => by
    split at q1
    · unfold rngSrc at q1
      split at q1
      · rename_i hl; simp at hl
      · split at q1
        · rename_i hj
          obtain ⟨v, w, rfl, r1, r2⟩ := rvs2 rvs
          obtain rfl := rv_int r1
          obtain rfl := rv_int r2
          exact ⟨_, _, rfl, ⟨hj.1.1, hj.1.2, hj.2.1, hj.2.2⟩, q1 m1 H1 .refl hr1 _ jok_range⟩
        · exact q1.elim
      · exact q1.elim
    · exact q1.elim⟩

/-! range(i, j, c), c above 0 -/
def stepL (lo c : Int) (n : Nat) : List D := (List.range n).map fun (i : Nat) => D.int (lo + i * c)
theorem stepL_get {lo c : Int} {n i : Nat} (h : i < n) : (stepL lo c n)[i]? = some (.int (lo + i * c)) := by
  unfold stepL
  rw [List.getElem?_map, List.getElem?_range h]
  rfl
theorem stepL_len {lo c : Int} {n : Nat} : (stepL lo c n).length = n := by simp [stepL]
def rngSrc3 (ds : List D) : M Src := fun hs => match ds with
  | [.int i, .int j, .int c] => if (0 < c ∧ c < 1073741824) ∧ Builtin.Range.small i j c = true ∧ 0 ≤ Builtin.Range.rangeSize i j c then some (.ok ⟨stepL i c (Builtin.Range.rangeSize i j c).toNat, fun _ => True⟩, hs) else none
  | _ => none
theorem jok_step {K : PySem.W.Frag} {mg : Str → Option Value} {m0 : List Addr} {H0 : Hp} {lo c : Int} {n : Nat} {ok : Hs → Prop} : JOk K mg (Itc lo c n) ⟨stepL lo c n, ok⟩ m0 H0 where
  go := fun i m hs H hi _ _ _ => by have h : i < n := by simpa [stepL_len] using hi
                                    exact h
  yl := fun i m hs H x H' _ hr _ y hi => by
    obtain ⟨rfl, rfl⟩ := y
    exact ⟨_, stepL_get (by simpa [stepL_len] using hi), .refl, hr, mk_int⟩
  st := fun _ _ _ _ _ _ => by simp [stepL_len, Itc]
theorem di_range3 {c : Expr} {tg : Expr} (hg : Gl X "range") (hm : X.mg "range" = none) (ha : DA X W [a, b, c] fs) (hp : plainArgs [a, b, c] = true) : DI X W tg (.Call (.Name "range" p) [a, b, c] [] pos) fun e => M.bind (fs e) rngSrc3 := by
  have hp' := hp
  simp only [plainArgs, Bool.and_eq_true] at hp'
  refine (pi_range3 hg hm ha (star_cons hp'.1) (any_plain (by simp only [plainArgs, Bool.and_eq_true]; exact hp'.2))).imp fun σ H R ⟨m, ev, hs, rs, hr, q⟩ => ⟨m, ev, hs, rs, hr, q.bind.mono fun xs m1 hs1 H1 e1 hr1 q1 vs rvs => ?_⟩
  unfold rngSrc3 at q1
  split at q1
  · split at q1
    · rename_i hj
      obtain ⟨⟨c0, c1⟩, c2, c3⟩ := hj
      obtain ⟨v, r, rfl, r1, r2⟩ := RVs.cons_iff.mp rvs
      obtain ⟨u, w, rfl, r3, r4⟩ := rvs2 r2
      obtain rfl := rv_int r1
      obtain rfl := rv_int r3
      obtain rfl := rv_int r4
      exact ⟨_, _, _, _, rfl, ⟨by omega, by omega, c2, (Int.toNat_of_nonneg c3).symm⟩, q1 m1 H1 .refl hr1 _ jok_step⟩
    · exact q1.elim
  · exact q1.elim
/-! enumerate, zip -/
def enumL : Nat → List D → List D
  | _, [] => []
  | k, x :: xs => .tup [.int (k : Nat), x] :: enumL (k + 1) xs
theorem enumL_get : ∀ {xs : List D} {k i : Nat}, (enumL k xs)[i]? = xs[i]?.map fun x => .tup [.int ((k + i : Nat) : Int), x]
  | [], _, _ => by simp [enumL]
  | x :: xs, k, 0 => by simp [enumL]
  | x :: xs, k, i + 1 => by
    show (enumL (k + 1) xs)[i]? = _
    rw [enumL_get (xs := xs)]
    have : k + 1 + i = k + (i + 1) := by omega
    rw [this]
    rfl
theorem enumL_len : ∀ {xs : List D} {k : Nat}, (enumL k xs).length = xs.length
  | [], _ => rfl
  | x :: xs, k => by simp [enumL, enumL_len (xs := xs)]
def zipL : List D → List D → List D
  | x :: xs, y :: ys => .tup [x, y] :: zipL xs ys
  | _, _ => []
theorem zipL_len : ∀ {xs ys : List D}, (zipL xs ys).length = min xs.length ys.length
  | [], _ => by simp [zipL]
  | _ :: _, [] => by simp [zipL]
  | x :: xs, y :: ys => by simp [zipL, zipL_len (xs := xs)]
theorem zipL_get : ∀ {xs ys : List D} {i : Nat} {x y : D}, xs[i]? = some x → ys[i]? = some y → (zipL xs ys)[i]? = some (.tup [x, y])
  | [], _, _, _, _, h, _ => by simp at h
  | _ :: _, [], _, _, _, _, h => by simp at h
  | a :: xs, b :: ys, 0, _, _, h1, h2 => by simp at h1 h2; subst h1 h2; rfl
  | a :: xs, b :: ys, i + 1, _, _, h1, h2 => by
    show (zipL xs ys)[i]? = _
    exact zipL_get (by simpa using h1) (by simpa using h2)
/-- the items of a list or a tuple, and what keeps them so -/
def seqAt (hs : Hs) : D → Option (List D × (Hs → Prop))
  | .tup xs => some (xs, fun _ => True)
  | .frl xs => some (xs, fun _ => True)
  | .loc n => match hs[n]? with
    | some (.lst xs) => some (xs, fun h => h[n]? = some (.lst xs))
    | _ => none
  | _ => none
theorem seqAt_ok {K : PySem.W.Frag} {mg : Str → Option Value} {m0 : List Addr} {H0 : Hp} {hs0 : Hs} {d : D} {xs : List D} {ok : Hs → Prop} {v : V} (h : seqAt hs0 d = some (xs, ok)) (hr0 : HR K mg m0 hs0 H0) (r : RV K mg m0 H0 d v) :
    ∃ a, v = .ref a ∧ (((∃ vs, SqL K H0 a vs) ∧ (∀ ys, d ≠ .tup ys) ∧ ∀ m hs H, Wk K m0 H0 m H → HR K mg m hs H → ok hs → ∃ vs, SqL K H a vs ∧ RVs K mg m H xs vs) ∨ ((∃ vs, SqT K H0 a vs) ∧ (∃ ys, d = .tup ys) ∧ ∀ m hs H, Wk K m0 H0 m H → HR K mg m hs H → ok hs → ∃ vs, SqT K H a vs ∧ RVs K mg m H xs vs)) := by
  cases d with
  | tup ys =>
    cases h
    obtain ⟨a, vs, rfl, h1, h2⟩ := rv_tup r
    exact ⟨a, rfl, .inr ⟨⟨vs, h1⟩, ⟨_, rfl⟩, fun m hs H e _ _ => ⟨vs, e.tup _ _ h1, h2.monoW e⟩⟩⟩
  | frl ys =>
    cases h
    obtain ⟨a, vs, rfl, h1, h2⟩ := rv_frl r
    exact ⟨a, rfl, .inl ⟨⟨vs, h1.sql⟩, (fun _ z => nomatch z), fun m hs H e _ _ => ⟨vs, (h1.keep e).sql, h2.monoW e⟩⟩⟩
  | loc n =>
    obtain ⟨a, rfl, hm⟩ := rv_loc r
    simp only [seqAt] at h
    split at h
    · rename_i ys e0
      cases h
      obtain ⟨vs, h1, h2⟩ := hr0.lst_at hm e0
      refine ⟨a, rfl, .inl ⟨⟨vs, SqL.of h1⟩, (fun _ z => nomatch z), fun m hs H e hr ok => ?_⟩⟩
      obtain ⟨ws, h3, h4⟩ := hr.lst_at (e.loc hm) ok
      exact ⟨ws, SqL.of h3, h4⟩
    · cases h
  | _ => cases h
def enumSrc (ds : List D) : M Src := fun hs => match ds with
  | [d] => match seqAt hs d with
    | some (xs, ok) => some (.ok ⟨enumL 0 xs, ok⟩, hs)
    | none => none
  | _ => none
section
variable {K : PySem.W.Frag} {mg : Str → Option Value} {m0 : List Addr} {H0 : Hp} {a b : Addr} {xs ys : List D} {ok : Hs → Prop}
theorem pair_new {m : List Addr} {hs : Hs} {H : Hp} {T : Addr} {u v : V} {x y : D} (hr : HR K mg m hs H) (nT : H T = none) (r1 : RV K mg m H x u) (r2 : RV K mg m H y v) : Ext K m H m (upd H T (.tup [u, v])) ∧ HR K mg m hs (upd H T (.tup [u, v])) ∧ RV K mg m (upd H T (.tup [u, v])) (.tup [x, y]) (.ref T) :=
  ⟨Ext.upd_new nT, hr.upd_new nT, mk_tup (SqT.of upd_same) (RVs.cons (r1.mono (Ext.upd_new nT)) (RVs.cons (r2.mono (Ext.upd_new nT)) (RVs.nil_iff.mpr rfl)))⟩
theorem jok_enumL (h : ∀ m hs H, Wk K m0 H0 m H → HR K mg m hs H → ok hs → ∃ vs, SqL K H a vs ∧ RVs K mg m H xs vs) : JOk K mg (Ite K a) ⟨enumL 0 xs, ok⟩ m0 H0 where
  go := fun i m hs H hi e hr ok => by
    obtain ⟨vs, h1, h2⟩ := h m hs H e hr ok
    have hi : i < xs.length := by simpa [enumL_len] using hi
    obtain ⟨v, hv, _⟩ := h2.get (List.getElem?_eq_getElem hi)
    exact ⟨vs, v, h1, hv⟩
  yl := fun i m hs H x H' e hr ok y hi => by
    obtain ⟨vs, h1, h2⟩ := h m hs H e hr ok
    obtain ⟨T, v, rfl, nT, rfl, y⟩ := y
    obtain ⟨d, hd, r⟩ := h2.get' (y vs h1)
    obtain ⟨q1, q2, q3⟩ := pair_new (x := .int (i : Nat)) hr nT mk_int r
    exact ⟨_, by rw [enumL_get, hd]; simp, q1, q2, q3⟩
  st := fun m hs H e hr ok => by
    obtain ⟨vs, h1, h2⟩ := h m hs H e hr ok
    exact ⟨vs, h1, by rw [enumL_len]; exact Nat.le_of_eq h2.length.symm⟩
theorem jok_enumT (h : ∀ m hs H, Wk K m0 H0 m H → HR K mg m hs H → ok hs → ∃ vs, SqT K H a vs ∧ RVs K mg m H xs vs) : JOk K mg (IteT K a) ⟨enumL 0 xs, ok⟩ m0 H0 where
  go := fun i m hs H hi e hr ok => by
    obtain ⟨vs, h1, h2⟩ := h m hs H e hr ok
    have hi : i < xs.length := by simpa [enumL_len] using hi
    obtain ⟨v, hv, _⟩ := h2.get (List.getElem?_eq_getElem hi)
    exact ⟨vs, v, h1, hv⟩
  yl := fun i m hs H x H' e hr ok y hi => by
    obtain ⟨vs, h1, h2⟩ := h m hs H e hr ok
    obtain ⟨T, v, rfl, nT, rfl, y⟩ := y
    obtain ⟨d, hd, r⟩ := h2.get' (y vs h1)
    obtain ⟨q1, q2, q3⟩ := pair_new (x := .int (i : Nat)) hr nT mk_int r
    exact ⟨_, by rw [enumL_get, hd]; simp, q1, q2, q3⟩
  st := fun m hs H e hr ok => by
    obtain ⟨vs, h1, h2⟩ := h m hs H e hr ok
    exact ⟨vs, h1, by rw [enumL_len]; exact Nat.le_of_eq h2.length.symm⟩
variable {ok2 : Hs → Prop}
theorem jok_zipL (h : ∀ m hs H, Wk K m0 H0 m H → HR K mg m hs H → ok hs → ∃ vs, SqL K H a vs ∧ RVs K mg m H xs vs) (h' : ∀ m hs H, Wk K m0 H0 m H → HR K mg m hs H → ok2 hs → ∃ vs, SqL K H b vs ∧ RVs K mg m H ys vs) : JOk K mg (Itz K a b) ⟨zipL xs ys, fun h => ok h ∧ ok2 h⟩ m0 H0 where
  go := fun i m hs H hi e hr ⟨o1, o2⟩ => by
    obtain ⟨vs, h1, h2⟩ := h m hs H e hr o1
    obtain ⟨ws, h3, h4⟩ := h' m hs H e hr o2
    have hi : i < min xs.length ys.length := by simpa [zipL_len] using hi
    obtain ⟨v, hv, _⟩ := h2.get (i := i) (List.getElem?_eq_getElem (by omega))
    obtain ⟨w, hw, _⟩ := h4.get (i := i) (List.getElem?_eq_getElem (by omega))
    exact ⟨vs, ws, v, w, h1, h3, hv, hw⟩
  yl := fun i m hs H x H' e hr ⟨o1, o2⟩ y hi => by
    obtain ⟨vs, h1, h2⟩ := h m hs H e hr o1
    obtain ⟨ws, h3, h4⟩ := h' m hs H e hr o2
    obtain ⟨T, v, w, rfl, nT, rfl, y, z⟩ := y
    obtain ⟨d, hd, r⟩ := h2.get' (y vs h1)
    obtain ⟨d2, hd2, r2⟩ := h4.get' (z ws h3)
    obtain ⟨q1, q2, q3⟩ := pair_new hr nT r r2
    exact ⟨_, zipL_get hd hd2, q1, q2, q3⟩
  st := fun m hs H e hr ⟨o1, o2⟩ => by
    obtain ⟨vs, h1, h2⟩ := h m hs H e hr o1
    obtain ⟨ws, h3, h4⟩ := h' m hs H e hr o2
    refine ⟨vs, ws, h1, h3, ?_⟩
    have l1 := h2.length
    have l2 := h4.length
    simp only [zipL_len]
    omega
theorem jok_zipT (h : ∀ m hs H, Wk K m0 H0 m H → HR K mg m hs H → ok hs → ∃ vs, SqT K H a vs ∧ RVs K mg m H xs vs) (h' : ∀ m hs H, Wk K m0 H0 m H → HR K mg m hs H → ok2 hs → ∃ vs, SqT K H b vs ∧ RVs K mg m H ys vs) : JOk K mg (ItzT K a b) ⟨zipL xs ys, fun h => ok h ∧ ok2 h⟩ m0 H0 where
  go := fun i m hs H hi e hr ⟨o1, o2⟩ => by
    obtain ⟨vs, h1, h2⟩ := h m hs H e hr o1
    obtain ⟨ws, h3, h4⟩ := h' m hs H e hr o2
    have hi : i < min xs.length ys.length := by simpa [zipL_len] using hi
    obtain ⟨v, hv, _⟩ := h2.get (i := i) (List.getElem?_eq_getElem (by omega))
    obtain ⟨w, hw, _⟩ := h4.get (i := i) (List.getElem?_eq_getElem (by omega))
    exact ⟨vs, ws, v, w, h1, h3, hv, hw⟩
  yl := fun i m hs H x H' e hr ⟨o1, o2⟩ y hi => by
    obtain ⟨vs, h1, h2⟩ := h m hs H e hr o1
    obtain ⟨ws, h3, h4⟩ := h' m hs H e hr o2
    obtain ⟨T, v, w, rfl, nT, rfl, y, z⟩ := y
    obtain ⟨d, hd, r⟩ := h2.get' (y vs h1)
    obtain ⟨d2, hd2, r2⟩ := h4.get' (z ws h3)
    obtain ⟨q1, q2, q3⟩ := pair_new hr nT r r2
    exact ⟨_, zipL_get hd hd2, q1, q2, q3⟩
  st := fun m hs H e hr ⟨o1, o2⟩ => by
    obtain ⟨vs, h1, h2⟩ := h m hs H e hr o1
    obtain ⟨ws, h3, h4⟩ := h' m hs H e hr o2
    refine ⟨vs, ws, h1, h3, ?_⟩
    have l1 := h2.length
    have l2 := h4.length
    simp only [zipL_len]
    omega
end
theorem di_enum {elts : List Expr} {kk : Nat} {tpos : Pos} (hg : Gl X "enumerate") (hm : X.mg "enumerate" = none) (ha : DA X W [a] fs) (hp : notStar a = true) : DI X W (.Tuple elts kk tpos) (.Call (.Name "enumerate" p) [a] [] pos) fun e => M.bind (fs e) enumSrc := by
  refine (pi_enumA hg hm ha (by rw [star_cons hp]; rfl)).imp fun σ H R ⟨m, ev, hs, rs, hr, q⟩ => ⟨m, ev, hs, rs, hr, q.bind.mono fun xs m1 hs1 H1 e1 hr1 q1 vs rvs => ?_⟩
  unfold enumSrc at q1
  split at q1
  · rename_i d
    obtain ⟨v, rfl, r1⟩ := rvs1 rvs
    split at q1
    · rename_i ys ok e
      obtain ⟨a, rfl, ⟨h1, _, h2⟩ | ⟨h1, _, h2⟩⟩ := seqAt_ok e hr1 r1
      · exact ⟨a, rfl, .inl ⟨h1, q1 m1 H1 .refl hr1 _ (jok_enumL h2)⟩⟩
      · exact ⟨a, rfl, .inr ⟨h1, q1 m1 H1 .refl hr1 _ (jok_enumT h2)⟩⟩
    · exact q1.elim
  · exact q1.elim
def bothTup : D → D → Bool
  | .tup _, .tup _ => true
  | .tup _, _ => false
  | _, .tup _ => false
  | _, _ => true
theorem both_l {c : D} {ys : List D} (h : bothTup c (.tup ys) = true) (n : ∀ xs, c ≠ .tup xs) : False := by
  cases c <;> first | exact n _ rfl | cases h
theorem both_r {c : D} {ys : List D} (h : bothTup (.tup ys) c = true) (n : ∀ xs, c ≠ .tup xs) : False := by
  cases c <;> first | exact n _ rfl | cases h
def zipSrc (ds : List D) : M Src := fun hs => match ds with
  | [c, d] => match seqAt hs c, seqAt hs d with
    | some (xs, ok), some (ys, ok2) => if bothTup c d = true then some (.ok ⟨zipL xs ys, fun h => ok h ∧ ok2 h⟩, hs) else none
    | _, _ => none
  | _ => none
theorem di_zip {elts : List Expr} {kk : Nat} {tpos : Pos} (hg : Gl X "zip") (hm : X.mg "zip" = none) (ha : DA X W [a, b] fs) (hp : notStar a = true) (hq : notStar b = true) : DI X W (.Tuple elts kk tpos) (.Call (.Name "zip" p) [a, b] [] pos) fun e => M.bind (fs e) zipSrc := by
  refine (pi_zipA hg hm ha (by rw [star_cons hp]) (by rw [star_cons hq]; rfl)).imp fun σ H R ⟨m, ev, hs, rs, hr, q⟩ => ⟨m, ev, hs, rs, hr, q.bind.mono fun xs m1 hs1 H1 e1 hr1 q1 vs rvs => ?_⟩
  unfold zipSrc at q1
  split at q1
  · rename_i c d
    obtain ⟨v, w, rfl, r1, r2⟩ := rvs2 rvs
    split at q1
    · rename_i us ok ws ok2 e1 e2
      split at q1
      · rename_i hb
        obtain ⟨a, rfl, ⟨⟨vs, h1⟩, t1, h2⟩ | ⟨⟨vs, h1⟩, ⟨zs, rfl⟩, h2⟩⟩ := seqAt_ok e1 hr1 r1
        · obtain ⟨b, rfl, ⟨⟨vs', h3⟩, _, h4⟩ | ⟨⟨vs', h3⟩, ⟨zs', rfl⟩, h4⟩⟩ := seqAt_ok e2 hr1 r2
          · exact ⟨a, b, _, _, rfl, .inl ⟨h1, h3, q1 m1 H1 .refl hr1 _ (jok_zipL h2 h4)⟩⟩
          · exact (both_l hb t1).elim
        · obtain ⟨b, rfl, ⟨⟨vs', h3⟩, t2, h4⟩ | ⟨⟨vs', h3⟩, ⟨zs', rfl⟩, h4⟩⟩ := seqAt_ok e2 hr1 r2
          · exact (both_r hb t2).elim
          · exact ⟨a, b, _, _, rfl, .inr ⟨h1, h3, q1 m1 H1 .refl hr1 _ (jok_zipT h2 h4)⟩⟩
      · exact q1.elim
    · exact q1.elim
  · exact q1.elim

/-! ## for -/
open Classical in
noncomputable def forS (ok : Hs → Prop) (body : D → Ev → S) : List D → Ev → S
  | [], e => fun hs => if ok hs then some (.nx e, hs) else none
  | d :: ds, e => fun hs => if ok hs then (match body d e hs with
    | some (.nx e1, h1) => forS ok body ds e1 h1
    | some (.ct e1, h1) => forS ok body ds e1 h1
    | some (.bk e1, h1) => some (.nx e1, h1)
    | r => r) else none
noncomputable def loopS (t : Tg) (fi : Ev → M Src) (g : Ev → S) : Ev → S := exprS fi fun src => forS src.ok (fun d e hs => match asg t d e with
  | some e2 => g e2 hs
  | none => none) src.items
variable {tg iter : Expr} {fi : Ev → M Src} {t : Tg} {body : List Stmt} {g : Ev → S}
theorem ds_for (hp : PassesOwn (model X.prog X.w) X.A X.env X.xe) (hc : X.calm = true) (hi : DI X W tg iter fi) (hg : PG X tg (gD X.K X.mg t)) (hb : DSs X W body g) (hs : ∀ x, foldedSetIterable iter X.env x = pure x) : DS X W (.For tg iter body [] pos) (loopS t fi g) := by
  refine (ps_for hp hc hi hg hb hs).imp fun D σ H ⟨m, ev, hs, rs, hr, q⟩ => ⟨m, ev, hs, rs, hr, (q.expr rs).mono fun src m1 hs1 H1 e1 hr1 q1 J j => ?_⟩
  have rs1 := rs.mono e1
  refine ⟨fun i k σ' H' => k = src.items.length - i ∧ i ≤ src.items.length ∧ ∃ m' ev' hs', Ext X.K m1 H1 m' H' ∧ RS X.K X.mg m' H' ev' σ' ∧ HR X.K X.mg m' hs' H' ∧ AfterS X.K X.mg W m' H' (forS src.ok (fun d e hs => match asg t d e with
    | some e2 => g e2 hs
    | none => none) (src.items.drop i) ev' hs') D, ⟨_, rfl, Nat.zero_le _, m1, ev, hs1, .refl, rs1, hr1, by simpa using q1⟩, ?_⟩
  rintro i k σ' H' ⟨rfl, hi', m', ev', hs', x, rs', hr', q'⟩
  by_cases hlt : i < src.items.length
  · have hd : src.items.drop i = src.items[i] :: src.items.drop (i + 1) := List.drop_eq_getElem_cons hlt
    rw [hd] at q'
    simp only [forS] at q'
    split at q'
    · rename_i ok
      refine .inr ⟨j.go i m' hs' H' hlt x.wk hr' ok, fun σ2 H2 => ∃ m2 ev2 hs2, Ext X.K m1 H1 m2 H2 ∧ RS X.K X.mg m2 H2 ev2 σ2 ∧ HR X.K X.mg m2 hs2 H2 ∧ AfterS X.K X.mg W m2 H2 (forS src.ok (fun d e hs => match asg t d e with
        | some e2 => g e2 hs
        | none => none) (src.items.drop (i + 1)) ev2 hs2) D, fun σ2 H2 h2 => ⟨_, by omega, rfl, hlt, h2⟩, fun v H2 y => ?_⟩
      obtain ⟨d, hd2, x2, hr2, rd⟩ := j.yl i m' hs' H' v H2 x.wk hr' ok y hlt
      have ed : src.items[i] = d := by
        rw [List.getElem?_eq_getElem hlt] at hd2
        exact Option.some.inj hd2
      rw [ed] at q'
      cases ea : asg t d ev' with
      | none => rw [ea] at q'; exact q'.elim
      | some e2 =>
        rw [ea] at q'
        simp only at q'
        refine ⟨m', ev', d, e2, rs'.mono x2, rd, ea, fun is vs _ r2 => ⟨m', e2, hs', r2, hr2, ?_⟩⟩
        have q2 := AfterS.from x2 q'
        cases eg : g e2 hs' with
        | none => rw [eg] at q2; exact q2
        | some r =>
          obtain ⟨r, h1⟩ := r
          rw [eg] at q2
          cases r with
          | nx e3 => exact fun m3 H3 σ3 x3 hr3 rs3 => ⟨m3, e3, h1, (x.trans x2).trans x3, rs3, hr3, AfterS.from x3 q2⟩
          | ct e3 => exact fun m3 H3 σ3 x3 hr3 rs3 => ⟨m3, e3, h1, (x.trans x2).trans x3, rs3, hr3, AfterS.from x3 q2⟩
          | bk e3 => exact q2
          | ret d => exact q2
          | exc z e3 => exact q2
    · exact q'.elim
  · have e : i = src.items.length := by omega
    subst e
    rw [List.drop_length] at q'
    simp only [forS] at q'
    split at q'
    · rename_i ok
      exact .inl ⟨j.st m' hs' H' x.wk hr' ok, q' m' H' σ' .refl hr' rs'⟩
    · exact q'.elim

/-! ## while -/
def whileF (t : Ev → M Bool) (b : Ev → S) : Nat → Ev → S
  | 0, _ => fun _ => none
  | n + 1, e => fun hs => match t e hs with
    | some (.ok true, h1) => (match b e h1 with
      | some (.nx e1, h2) => whileF t b n e1 h2
      | some (.ct e1, h2) => whileF t b n e1 h2
      | some (.bk e1, h2) => some (.nx e1, h2)
      | r => r)
    | some (.ok false, h1) => some (.nx e, h1)
    | some (.error x, h1) => some (.exc x e, h1)
    | none => none
theorem whileF_more {t : Ev → M Bool} {b : Ev → S} : ∀ {n : Nat} {e : Ev} {hs : Hs} {r : Fl × Hs}, whileF t b n e hs = some r → whileF t b (n + 1) e hs = some r
  | 0, _, _, _, h => by cases h
  | n + 1, e, hs, r, h => by
    unfold whileF at h ⊢
    cases et : t e hs with
    | none => rw [et] at h; cases h
    | some q =>
      obtain ⟨q, h1⟩ := q
      rw [et] at h
      cases q with
      | error x => exact h
      | ok c =>
        cases c with
        | false => exact h
        | true =>
          simp only at h ⊢
          cases eb : b e h1 with
          | none => rw [eb] at h; cases h
          | some z =>
            obtain ⟨z, h2⟩ := z
            rw [eb] at h
            cases z with
            | nx e1 => exact whileF_more h
            | ct e1 => exact whileF_more h
            | bk e1 => exact h
            | ret d => exact h
            | exc x e1 => exact h
open Classical in
/-- as many turns as it takes -/
noncomputable def whileS (t : Ev → M Bool) (b : Ev → S) (e : Ev) : S := fun hs => if h : ∃ n r, whileF t b n e hs = some r then whileF t b h.choose e hs else none
theorem whileS_of {t : Ev → M Bool} {b : Ev → S} {n : Nat} {e : Ev} {hs : Hs} {r : Fl × Hs} (h : whileF t b n e hs = some r) : whileS t b e hs = some r := by
  have hx : ∃ n r, whileF t b n e hs = some r := ⟨n, r, h⟩
  unfold whileS
  rw [dif_pos hx]
  obtain ⟨r', h'⟩ := hx.choose_spec
  have up : ∀ {n r} (k : Nat), whileF t b n e hs = some r → whileF t b (n + k) e hs = some r := fun {n r} k q => by
    induction k with
    | zero => exact q
    | succ k ih => exact whileF_more ih
  rw [h']
  have a1 := up hx.choose h
  have a2 := up n h'
  rw [Nat.add_comm] at a2
  exact a2.symm.trans a1
theorem whileS_inv {t : Ev → M Bool} {b : Ev → S} {e : Ev} {hs : Hs} {r : Fl × Hs} (h : whileS t b e hs = some r) : ∃ n, whileF t b n e hs = some r := by
  unfold whileS at h
  split at h
  · exact ⟨_, h⟩
  · cases h
theorem ds_while {c : Expr} {ft : Ev → M Bool} (hp : PassesOwn (model X.prog X.w) X.A X.env X.xe) (hc : DT X W c ft) (hb : DSs X W body g) : DS X W (.While c body [] pos) (whileS ft g) := by
  refine (ps_while hp hc hb).imp fun D σ H ⟨m, ev, hs, rs, hr, q⟩ => ?_
  have q0 := q
  obtain ⟨n0, en⟩ : ∃ n, whileF ft g n ev hs = whileS ft g ev hs ∧ ∃ r, whileS ft g ev hs = some r := by
    cases e : whileS ft g ev hs with
    | none => rw [e] at q; exact q.elim
    | some r => obtain ⟨n, h⟩ := whileS_inv e; exact ⟨n, h, r, rfl⟩
  rw [← en.1] at q
  refine ⟨fun k σ' H' => ∃ m' ev' hs', RS X.K X.mg m' H' ev' σ' ∧ HR X.K X.mg m' hs' H' ∧ AfterS X.K X.mg W m' H' (whileF ft g k ev' hs') D, ⟨n0, m, ev, hs, rs, hr, q⟩, ?_⟩
  rintro k σ' H' ⟨m', ev', hs', rs', hr', q'⟩
  cases k with
  | zero => exact q'.elim
  | succ k =>
    simp only [whileF] at q'
    refine ⟨m', ev', hs', rs', hr', ?_⟩
    cases et : ft ev' hs' with
    | none => rw [et] at q'; exact q'.elim
    | some z =>
      obtain ⟨z, h1⟩ := z
      rw [et] at q'
      cases z with
      | error x => exact fun m2 H2 cls d x2 hr2 rx => q' m2 H2 σ' cls d x2 hr2 (rs'.mono x2) rx
      | ok c =>
        cases c with
        | false =>
          intro m2 H2 x2 hr2
          show (if false = true then _ else _)
          rw [if_neg Bool.false_ne_true]
          exact q' m2 H2 σ' x2 hr2 (rs'.mono x2)
        | true =>
          intro m2 H2 x2 hr2
          show (if true = true then _ else _)
          rw [if_pos rfl]
          refine ⟨fun σ3 H3 => ∃ m3 ev3 hs3, RS X.K X.mg m3 H3 ev3 σ3 ∧ HR X.K X.mg m3 hs3 H3 ∧ AfterS X.K X.mg W m3 H3 (whileF ft g k ev3 hs3) D, fun σ3 H3 h3 => ⟨k, Nat.lt_succ_self _, h3⟩, m2, ev', h1, rs'.mono x2, hr2, ?_⟩
          have q2 := AfterS.from x2 q'
          simp only at q2
          cases eg : g ev' h1 with
          | none => rw [eg] at q2; exact q2
          | some r =>
            obtain ⟨r, h4⟩ := r
            rw [eg] at q2
            cases r with
            | nx e3 => exact fun m3 H3 σ3 x3 hr3 rs3 => ⟨m3, e3, h4, rs3, hr3, AfterS.from x3 q2⟩
            | ct e3 => exact fun m3 H3 σ3 x3 hr3 rs3 => ⟨m3, e3, h4, rs3, hr3, AfterS.from x3 q2⟩
            | bk e3 => exact q2
            | ret d => exact q2
            | exc z e3 => exact q2
end
end DL
set_option Elab.async false
set_option linter.all false
set_option maxRecDepth 100000
set_option maxHeartbeats 4000000
namespace DL
open PySem PySem.Spec PyProof.Rows L2

/-! ## list comprehensions -/
def wipeE (e : Ev) : List Nat → Ev
  | [] => e
  | v :: vs => (wipeE e vs).set v none
theorem RS.wipe {K : PySem.W.Frag} {mg : Str → Option Value} {m : List Addr} {H : Hp} {e : Ev} {σ : L2.St} (h : RS K mg m H e σ) : ∀ vs : List Nat, RS K mg m H (wipeE e vs) (L2.wipe σ vs)
  | [] => h
  | v :: vs => by
    have ih := RS.wipe h vs
    refine ⟨by simp [wipeE, L2.wipe, ih.len], fun j c q => ?_⟩
    unfold wipeE at q
    by_cases hj : v = j
    · subst hj
      by_cases hl : v < (wipeE e vs).length
      · rw [List.getElem?_set_self hl] at q; cases q
      · rw [List.getElem?_eq_none (by simpa using hl)] at q; cases q
    · rw [List.getElem?_set_ne hj] at q
      obtain ⟨w, h1, h2⟩ := ih.at_ j c q
      exact ⟨w, by unfold L2.wipe; rw [List.getElem?_set_ne hj]; exact h1, h2⟩
/-- wiping forgets stores to the wiped places -/
theorem wipe_at (σ : L2.St) : ∀ (vs : List Nat) (i : Nat), (L2.wipe σ vs)[i]? = if i ∈ vs then (if i < σ.length then some none else none) else σ[i]?
  | [], i => by simp [L2.wipe]
  | v :: vs, i => by
    unfold L2.wipe
    rw [List.getElem?_set, wipe_length]
    by_cases h : v = i
    · subst h
      simp
    · rw [if_neg h, wipe_at σ vs i]
      have : i ≠ v := fun e => h e.symm
      simp [this]
theorem wipe_set {σ : L2.St} {vs : List Nat} {i : Nat} {y : Option V} (hi : i ∈ vs) : L2.wipe (σ.set i y) vs = L2.wipe σ vs := by
  apply List.ext_getElem?
  intro j
  rw [wipe_at, wipe_at, List.length_set]
  by_cases hj : j ∈ vs
  · simp [hj]
  · rw [if_neg hj, if_neg hj, List.getElem?_set_ne (fun e => hj (by rw [← e]; exact hi))]
theorem wipe_wipe {σ : L2.St} {vs : List Nat} : L2.wipe (L2.wipe σ vs) vs = L2.wipe σ vs := by
  apply List.ext_getElem?
  intro j
  rw [wipe_at, wipe_at, wipe_length]
  by_cases hj : j ∈ vs
  · simp [hj]
  · simp [hj]
theorem wipe_sets : ∀ {is : List Nat} {ws : List V} {σ : L2.St} {vs : List Nat}, (∀ i ∈ is, i ∈ vs) → L2.wipe (setsV σ is ws) vs = L2.wipe σ vs
  | [], ws, _, _, _ => by cases ws <;> rfl
  | i :: is, [], _, _, _ => rfl
  | i :: is, w :: ws, σ, vs, h => by
    show L2.wipe (setsV (σ.set i (some w)) is ws) vs = _
    rw [wipe_sets (fun j hj => h j (List.mem_cons_of_mem _ hj)), wipe_set (h i List.mem_cons_self)]
/-- one turn: an element, or none -/
def turnM (t : Tg) (ft : Ev → M Bool) (fe : Ev → M D) (ew : Ev) (d : D) : M (Option D) := match asg t d ew with
  | some e2 => M.bind (ft e2) fun b => if b = true then M.bind (fe e2) fun y => M.pure (some y) else M.pure none
  | none => M.stuck
open Classical in
noncomputable def compS (ok : Hs → Prop) (turn : D → M (Option D)) : List D → List D → P (List D)
  | [], acc => fun hs => if ok hs then some (acc, hs) else none
  | d :: ds, acc => fun hs => if ok hs then (match turn d hs with
    | some (.ok (some y), h1) => if acc.length < sizeLine then compS ok turn ds (acc ++ [y]) h1 else none
    | some (.ok none, h1) => compS ok turn ds acc h1
    | _ => none) else none
noncomputable def compM (own : List Nat) (t : Tg) (fi : Ev → M Src) (ft : Ev → M Bool) (fe : Ev → M D) : Ev → M D := fun e => M.bind (fi e) fun src => M.bind (M.lift (compS src.ok (turnM t ft fe (wipeE e own)) src.items [])) fun xs => M.lift (newL xs)
section
variable {X : Cx} {W : WX}
abbrev WF : WX := fun _ _ _ _ => False
theorem AfterM.okOf {K : PySem.W.Frag} {mg : Str → Option Value} {W' : WX} {σ : L2.St} {m : List Addr} {H : Hp} {α : Type} {a : α} {hs' : Hs} {Q : α → List Addr → Hs → Hp → Prop} (h : ∀ m' H', Ext K m H m' H' → HR K mg m' hs' H' → Q a m' hs' H') :
    AfterM K mg W' σ m H (some (.ok a, hs')) Q := h
/-- the state within a comprehension: the list at D holds what is made so far -/
structure LcP (K : PySem.W.Frag) (mg : Str → Option Value) (m0 : List Addr) (H0 : Hp) (Dl : Addr) (acc : List D) (m : List Addr) (hs : Hs) (H : Hp) : Prop where
  x : Ext K m0 H0 m H
  hr : HR K mg m hs H
  out : Dl ∉ m
  at_ : ∃ vs, H Dl = some (.lst vs) ∧ RVs K mg m H acc vs
theorem lcP_on {K : PySem.W.Frag} {mg : Str → Option Value} {m0 m m' : List Addr} {H0 H H' : Hp} {Dl : Addr} {acc : List D} {hs hs' : Hs} (p : LcP K mg m0 H0 Dl acc m hs H) (e : Ext K m H m' H') (hr : HR K mg m' hs' H') : LcP K mg m0 H0 Dl acc m' hs' H' := by
  obtain ⟨vs, h1, h2⟩ := p.at_
  refine ⟨p.x.trans e, hr, fun h => ?_, vs, e.keep _ _ h1 p.out, h2.mono e⟩
  rcases e.new _ h with q | q
  · exact p.out q
  · rw [h1] at q; cases q
theorem lcP_add {K : PySem.W.Frag} {mg : Str → Option Value} {m0 m : List Addr} {H0 H : Hp} {Dl : Addr} {acc : List D} {hs : Hs} {y : D} {v : V} (h0 : H0 Dl = none) (p : LcP K mg m0 H0 Dl acc m hs H) (r : RV K mg m H y v) {vs : List V} (h1 : H Dl = some (.lst vs)) (h2 : RVs K mg m H acc vs) :
    LcP K mg m0 H0 Dl (acc ++ [y]) m hs (upd H Dl (.lst (vs ++ [v]))) := by
  have wk : Wk K m H m (upd H Dl (.lst (vs ++ [v]))) := ⟨⟨[], by simp⟩, fun a xs h => by
      rcases h with (h | ⟨o, h⟩) | h
      · exact .inl (.inl (by rw [upd_ne fun z => by subst z; rw [h1] at h; cases h]; exact h))
      · exact .inl (.inr ⟨o, by rw [upd_ne fun z => by subst z; rw [h1] at h; cases h]; exact h⟩)
      · exact .inr h, fun a o u h => by rw [upd_ne fun z => by subst z; rw [h1] at h; cases h]; exact h, fun a fs h => by rw [upd_ne fun z => by subst z; rw [h1] at h; cases h]; exact h⟩
  refine ⟨⟨p.x.pre, fun b o h hn => by rw [upd_ne fun z => by subst z; rw [h0] at h; cases h]; exact p.x.keep b o h hn, p.x.new, fun a xs h => wk.tup a xs (p.x.tup a xs h), fun a o u h => wk.frz a o u (p.x.frz a o u h), fun a fs h => wk.xd a fs (p.x.xd a fs h)⟩, ?_, p.out, vs ++ [v], upd_same, ?_⟩
  · refine ⟨p.hr.len, p.hr.nd, fun n o a e1 e2 => ?_⟩
    have q := p.hr.ob n o a e1 e2
    have hne : a ≠ Dl := fun z => p.out (by rw [← z]; exact List.mem_of_getElem? e2)
    cases o with
    | lst xs => obtain ⟨ws, a1, a2⟩ := q; exact ⟨ws, by rw [upd_ne hne]; exact a1, a2.monoW wk⟩
    | dct _ => obtain ⟨ks, a1, a2⟩ := q; exact ⟨ks, by rw [upd_ne hne]; exact a1, a2.monoW wk⟩
    | ins c fs => obtain ⟨C, dx, ws, a0, a1, a2⟩ := q; exact ⟨C, dx, ws, a0, by rw [upd_ne hne]; exact a1, a2.monoW wk⟩
    | set _ => exact q.elim
  · exact (h2.monoW wk).append (RVs.cons (r.monoW wk) (RVs.nil_iff.mpr rfl))
variable {elt tg iter : Expr} {ifs : List Expr} {scope : Scope} {own : List (Str × Nat)} {pos spos : Pos} {fi : Ev → M Src} {t : Tg} {ft : Ev → M Bool} {fe : Ev → M D}
abbrev DTs (X : Cx) (W : WX) (ifs : List Expr) (f : Ev → M Bool) : Prop := PTs X ifs (tT X.K X.mg W f)
theorem RO.monoW {K : PySem.W.Frag} {mg : Str → Option Value} {m m' : List Addr} {H H' : Hp} (e : Wk K m H m' H') {o : O} {a : Addr} (h : RO K mg m H o a) (ha : H' a = H a) : RO K mg m' H' o a := by
  cases o with
  | lst xs => obtain ⟨vs, h1, h2⟩ := h; exact ⟨vs, by rw [ha]; exact h1, h2.monoW e⟩
  | dct _ => obtain ⟨ks, h1, h2⟩ := h; exact ⟨ks, by rw [ha]; exact h1, h2.monoW e⟩
  | ins c fs => obtain ⟨C, dx, vs, h0, h1, h2⟩ := h; exact ⟨C, dx, vs, h0, by rw [ha]; exact h1, h2.monoW e⟩
  | set _ => exact h.elim
/-- the list is ours at the end -/
theorem lcP_end {K : PySem.W.Frag} {mg : Str → Option Value} {m0 m : List Addr} {H0 H : Hp} {Dl : Addr} {acc : List D} {hs : Hs} (h0 : H0 Dl = none) (p : LcP K mg m0 H0 Dl acc m hs H) :
    Ext K m0 H0 (m ++ [Dl]) H ∧ HR K mg (m ++ [Dl]) (hs ++ [.lst acc]) H ∧ RV K mg (m ++ [Dl]) H (.loc hs.length) (.ref Dl) := by
  obtain ⟨vs, h1, h2⟩ := p.at_
  have wk : Wk K m H (m ++ [Dl]) H := ⟨⟨[Dl], rfl⟩, fun _ _ h => h, fun _ _ _ h => h, fun _ _ h => h⟩
  have hl := p.hr.len
  obtain ⟨t, ht⟩ := p.x.pre
  refine ⟨⟨⟨t ++ [Dl], by rw [ht]; simp⟩, p.x.keep, fun b hb => ?_, p.x.tup, p.x.frz, p.x.xd⟩, ⟨by simp [hl], ?_, fun n u a e1 e2 => ?_⟩, by simp only [RV]; exact ⟨Dl, rfl, by simp [← hl]⟩⟩
  · rcases List.mem_append.mp hb with hb | hb
    · exact p.x.new b hb
    · obtain rfl : b = Dl := by simpa using hb
      exact .inr h0
  · refine List.nodup_append.mpr ⟨p.hr.nd, by simp, fun a ha b hb q => ?_⟩
    obtain rfl : b = Dl := by simpa using hb
    subst q
    exact p.out ha
  · by_cases hn : n < m.length
    · rw [List.getElem?_append_left hn] at e2
      rw [List.getElem?_append_left (by omega)] at e1
      exact (p.hr.ob n u a e1 e2).monoW wk rfl
    · rw [List.getElem?_append_right (by omega)] at e1 e2
      have hz : n - m.length = 0 := by
        have := (List.getElem?_eq_some_iff.mp e2).1
        simpa using this
      rw [hz] at e2
      rw [← hl, hz] at e1
      simp at e1 e2
      subst e1 e2
      exact ⟨vs, h1, h2.monoW wk⟩
theorem lc_read (hsl : ∀ i ∈ t.slots, i ∈ own.map (·.2)) {σ : L2.St} {H : Hp} {Q : VK} (h : tE X.K X.mg W (compM (own.map (·.2)) t fi ft fe) σ H Q) :
    tLc (tI X.K X.mg W fi) (gD X.K X.mg t) (tT X.K X.mg WF ft) (tE X.K X.mg WF fe) (own.map (·.2)) σ H Q := by
  obtain ⟨m, ev, hs, rs, hr, q⟩ := h
  refine ⟨m, ev, hs, rs, hr, q.bind.mono fun src m1 hs1 H1 e1 hr1 q1 J j Dl hD => ?_⟩
  have rs1 := rs.mono e1
  generalize hvs : own.map (·.2) = vs at *
  have x0 : Ext X.K m1 H1 m1 (upd H1 Dl (.lst [])) := Ext.upd_new hD
  -- the whole run, once
  obtain ⟨ys, hs2, ec⟩ : ∃ ys hs2, compS src.ok (turnM t ft fe (wipeE ev vs)) src.items [] hs1 = some (ys, hs2) := by
    obtain ⟨ys, hs2, e, _⟩ := q1.bind.lift
    exact ⟨ys, hs2, e⟩
  have fin : ∀ m' H', LcP X.K X.mg m1 H1 Dl ys m' hs2 H' → Q (.ref Dl) H' := fun m' H' p => by
    obtain ⟨a1, a2, a3⟩ := lcP_end hD p
    have q2 : AfterM X.K X.mg W σ m1 H1 (some (Except.ok (D.loc hs2.length), hs2 ++ [O.lst ys])) fun d m' _ H' => ∀ v, RV X.K X.mg m' H' d v → Q v H' := by
      have e : M.bind (M.lift (compS src.ok (turnM t ft fe (wipeE ev vs)) src.items [])) (fun xs => M.lift (newL xs)) hs1 = some (Except.ok (D.loc hs2.length), hs2 ++ [O.lst ys]) := by
        unfold M.bind M.lift
        rw [ec]
        rfl
      rw [← e]
      exact q1
    exact q2 (m' ++ [Dl]) H' a1 a2 _ a3
  refine ⟨fun i k H' => k = src.items.length - i ∧ i ≤ src.items.length ∧ ∃ m' hs' acc, LcP X.K X.mg m1 H1 Dl acc m' hs' H' ∧ compS src.ok (turnM t ft fe (wipeE ev vs)) (src.items.drop i) acc hs' = some (ys, hs2),
    ⟨_, rfl, Nat.zero_le _, m1, hs1, [], ⟨x0, hr1.upd_new hD, hr1.fresh hD, [], upd_same, RVs.nil_iff.mpr rfl⟩, by simpa using ec⟩, ?_⟩
  rintro i k H' ⟨rfl, hi', m', hs', acc, p, q'⟩
  by_cases hlt : i < src.items.length
  · have hd : src.items.drop i = src.items[i] :: src.items.drop (i + 1) := List.drop_eq_getElem_cons hlt
    rw [hd] at q'
    simp only [compS] at q'
    split at q'
    · rename_i ok
      refine .inr ⟨j.go i m' hs' H' hlt p.x.wk p.hr ok, fun H2 => ∃ m2 hs3 acc2, LcP X.K X.mg m1 H1 Dl acc2 m2 hs3 H2 ∧ compS src.ok (turnM t ft fe (wipeE ev vs)) (src.items.drop (i + 1)) acc2 hs3 = some (ys, hs2),
        fun H2 h2 => ⟨_, by omega, rfl, hlt, h2⟩, fun v H2 y => ?_⟩
      obtain ⟨d, hd2, x2, hr2, rd⟩ := j.yl i m' hs' H' v H2 p.x.wk p.hr ok y hlt
      have ed : src.items[i] = d := by
        rw [List.getElem?_eq_getElem hlt] at hd2
        exact Option.some.inj hd2
      rw [ed] at q'
      have p2 := lcP_on p x2 hr2
      have rw2 : RS X.K X.mg m' H2 (wipeE ev vs) (L2.wipe σ vs) := ((rs1.mono p.x).mono x2).wipe vs
      cases et : turnM t ft fe (wipeE ev vs) d hs' with
      | none => rw [et] at q'; cases q'
      | some r =>
        obtain ⟨r, h1⟩ := r
        rw [et] at q'
        cases r with
        | error x => cases q'
        | ok o =>
          unfold turnM at et
          cases ea : asg t d (wipeE ev vs) with
          | none => rw [ea] at et; cases et
          | some e2 =>
            rw [ea] at et
            simp only [M.bind] at et
            refine ⟨m', wipeE ev vs, d, e2, rw2, rd, ea, fun is ws his r2 => ⟨?_, ?_⟩⟩
            · rw [wipe_sets (fun i hi => hsl i (by rw [his]; exact hi)), wipe_wipe]
            · refine ⟨m', e2, hs', r2, hr2, ?_⟩
              cases ef : ft e2 hs' with
              | none => rw [ef] at et; cases et
              | some z =>
                obtain ⟨z, h2⟩ := z
                rw [ef] at et
                cases z with
                | error x => cases et
                | ok b =>
                  intro m3 H3 x3 hr3
                  simp only at et
                  cases b with
                  | false =>
                    rw [if_neg Bool.false_ne_true] at et ⊢
                    cases et
                    exact ⟨m3, h1, acc, lcP_on p2 x3 hr3, q'⟩
                  | true =>
                    rw [if_pos rfl] at et ⊢
                    refine ⟨m3, e2, h2, r2.mono x3, hr3, ?_⟩
                    unfold M.bind at et
                    cases eg : fe e2 h2 with
                    | none => rw [eg] at et; cases et
                    | some z =>
                      obtain ⟨z, h4⟩ := z
                      rw [eg] at et
                      cases z with
                      | error x => cases et
                      | ok y =>
                        cases et
                        intro m4 H4 x4 hr4 v4 r4
                        simp only at q'
                        split at q'
                        · have p4 := lcP_on (lcP_on p2 x3 hr3) x4 hr4
                          obtain ⟨us, a1, a2⟩ := p4.at_
                          exact ⟨us, a1, by rw [← a2.length]; assumption, m4, h1, acc ++ [y], lcP_add hD p4 r4 a1 a2, q'⟩
                        · cases q'
    · cases q'
  · have e : i = src.items.length := by omega
    subst e
    rw [List.drop_length] at q'
    simp only [compS] at q'
    split at q'
    · rename_i ok
      cases q'
      exact .inl ⟨j.st m' _ H' p.x.wk p.hr ok, fin m' H' p⟩
    · cases q'
theorem de_lc (hc : X.calm = true) (hN : X.N.Nodup) (hi : DI X W tg iter fi) (ok : BlkOk X.N X.env.scope scope own) (hsl : ∀ i ∈ t.slots, i ∈ own.map (·.2))
    (hg : ∀ (s : Shared) (H : Hp) (C : Addr) (cl : List (Str × Addr)) (fp : List Addr), PG (X.blk s H scope (compEnvC scope cl C X.env) fp) tg (gD X.K X.mg t))
    (ht : ∀ (s : Shared) (H : Hp) (C : Addr) (cl : List (Str × Addr)) (fp : List Addr), DTs (X.blk s H scope (compEnvC scope cl C X.env) fp) WF ifs ft)
    (he : ∀ (s : Shared) (H : Hp) (C : Addr) (cl : List (Str × Addr)) (fp : List Addr), DE (X.blk s H scope (compEnvC scope cl C X.env) fp) WF elt fe) (hs : ∀ x, foldedSetIterable iter X.env x = pure x) :
    DE X W (.ListComp elt [⟨tg, iter, ifs, 0⟩] scope pos) (compM (own.map (·.2)) t fi ft fe) := (pe_lc hc hN hi ok hg ht he hs).imp fun _ _ _ h => lc_read hsl h
theorem ds_setLc {i : Nat} {y : Str} {py : Pos} (hc : X.calm = true) (hN : X.N.Nodup) (hy : X.N[i]? = some y) (hyl : X.env.scope.names.lookup y = some .local)
    (hsw : swapsWith (.ListComp elt [⟨tg, iter, ifs, 0⟩] scope pos) (some (.Name y py)) spos.line X.env = pure true) (hi : DI X W tg iter fi) (ok : BlkOk X.N X.env.scope scope own) (hsl : ∀ i ∈ t.slots, i ∈ own.map (·.2))
    (hg : ∀ (s : Shared) (H : Hp) (C : Addr) (cl : List (Str × Addr)) (fp : List Addr), PG (X.blk s H scope (compEnvC scope cl C X.env) fp) tg (gD X.K X.mg t))
    (ht : ∀ (s : Shared) (H : Hp) (C : Addr) (cl : List (Str × Addr)) (fp : List Addr), DTs (X.blk s H scope (compEnvC scope cl C X.env) fp) WF ifs ft)
    (he : ∀ (s : Shared) (H : Hp) (C : Addr) (cl : List (Str × Addr)) (fp : List Addr), DE (X.blk s H scope (compEnvC scope cl C X.env) fp) WF elt fe) (hs : ∀ x, foldedSetIterable iter X.env x = pure x) :
    DS X W (.Assign [.Name y py] (.ListComp elt [⟨tg, iter, ifs, 0⟩] scope pos) spos) (asgS (.one i) (compM (own.map (·.2)) t fi ft fe)) :=
  (ps_setLc hc hN hy hyl hsw hi ok hg ht he hs).imp fun D σ H ⟨m, ev, hs, rs, hr, q⟩ => lc_read hsl ⟨m, ev, hs, rs, hr, (q.expr rs).mono fun d m1 hs1 H1 e1 hr1 q1 v rv => q1 m1 H1 _ .refl hr1 ((rs.mono e1).set rv i)⟩

/-! two clauses -/
/-- a turn of the first clause: what the second one gathers -/
noncomputable def turn2 (t : Tg) (ft : Ev → M Bool) (fi1 : Ev → M Src) (t1 : Tg) (ft1 : Ev → M Bool) (fe : Ev → M D) (vs1 : List Nat) (ew : Ev) (d : D) (acc : List D) : P (List D) := fun hs => match asg t d ew with
  | some e2 => (match ft e2 hs with
    | some (.ok true, h1) => (match fi1 e2 h1 with
      | some (.ok src, h2) => compS src.ok (turnM t1 ft1 fe (wipeE e2 vs1)) src.items acc h2
      | _ => none)
    | some (.ok false, h1) => some (acc, h1)
    | _ => none)
  | none => none
open Classical in
noncomputable def comp2S (ok : Hs → Prop) (turn : D → List D → P (List D)) : List D → List D → P (List D)
  | [], acc => fun hs => if ok hs then some (acc, hs) else none
  | d :: ds, acc => fun hs => if ok hs then (match turn d acc hs with
    | some (acc2, h1) => comp2S ok turn ds acc2 h1
    | none => none) else none
noncomputable def comp2M (own vs1 : List Nat) (t : Tg) (fi : Ev → M Src) (ft : Ev → M Bool) (t1 : Tg) (fi1 : Ev → M Src) (ft1 : Ev → M Bool) (fe : Ev → M D) : Ev → M D := fun e => M.bind (fi e) fun src => M.bind (M.lift (comp2S src.ok (turn2 t ft fi1 t1 ft1 fe vs1 (wipeE e own)) src.items [])) fun xs => M.lift (newL xs)
section
variable {X : Cx} {W : WX} {elt tg iter tg1 iter1 : Expr} {ifs ifs1 : List Expr} {scope : Scope} {own : List (Str × Nat)} {vs1 : List Nat} {pos spos : Pos} {fi fi1 : Ev → M Src} {t t1 : Tg} {ft ft1 : Ev → M Bool} {fe : Ev → M D}
theorem lcP_wk {K : PySem.W.Frag} {m : List Addr} {H : Hp} {Dl : Addr} {vs : List V} {v : V} (h1 : H Dl = some (.lst vs)) : Wk K m H m (upd H Dl (.lst (vs ++ [v]))) :=
  ⟨⟨[], by simp⟩, fun a xs h => by
      rcases h with (h | ⟨o, h⟩) | h
      · exact .inl (.inl (by rw [upd_ne fun z => by subst z; rw [h1] at h; cases h]; exact h))
      · exact .inl (.inr ⟨o, by rw [upd_ne fun z => by subst z; rw [h1] at h; cases h]; exact h⟩)
      · exact .inr h, fun a o u h => by rw [upd_ne fun z => by subst z; rw [h1] at h; cases h]; exact h, fun a fs h => by rw [upd_ne fun z => by subst z; rw [h1] at h; cases h]; exact h⟩
theorem _root_.DL.Wk.trans {K : PySem.W.Frag} {m m1 m2 : List Addr} {H H1 H2 : Hp} (a : Wk K m H m1 H1) (b : Wk K m1 H1 m2 H2) : Wk K m H m2 H2 := by
  obtain ⟨t, rfl⟩ := a.pre
  obtain ⟨u, rfl⟩ := b.pre
  exact ⟨⟨t ++ u, by simp⟩, fun c xs h => b.tup c xs (a.tup c xs h), fun c o u h => b.frz c o u (a.frz c o u h), fun c u h => b.xd c u (a.xd c u h)⟩
theorem lc2_read (hsl : ∀ i ∈ t.slots, i ∈ own.map (·.2)) (hsl1 : ∀ i ∈ t1.slots, i ∈ vs1) {σ : L2.St} {H : Hp} {Q : VK} (h : tE X.K X.mg W (comp2M (own.map (·.2)) vs1 t fi ft t1 fi1 ft1 fe) σ H Q) :
    tLc2 (tI X.K X.mg W fi) (gD X.K X.mg t) (tT X.K X.mg WF ft) (tI X.K X.mg WF fi1) (gD X.K X.mg t1) (tT X.K X.mg WF ft1) (tE X.K X.mg WF fe) (own.map (·.2)) vs1 σ H Q := by
  obtain ⟨m, ev, hs, rs, hr, q⟩ := h
  refine ⟨m, ev, hs, rs, hr, q.bind.mono fun src m1 hs1 H1 e1 hr1 q1 J j Dl hD => ?_⟩
  have rs1 := rs.mono e1
  generalize hvs : own.map (·.2) = vs at *
  have x0 : Ext X.K m1 H1 m1 (upd H1 Dl (.lst [])) := Ext.upd_new hD
  obtain ⟨TT, hTT⟩ : ∃ TT, TT = turn2 t ft fi1 t1 ft1 fe vs1 (wipeE ev vs) := ⟨_, rfl⟩
  rw [← hTT] at q1
  obtain ⟨ys, hs2, ec⟩ : ∃ ys hs2, comp2S src.ok TT src.items [] hs1 = some (ys, hs2) := by
    obtain ⟨ys, hs2, e, _⟩ := q1.bind.lift
    exact ⟨ys, hs2, e⟩
  have fin : ∀ m' H', LcP X.K X.mg m1 H1 Dl ys m' hs2 H' → Q (.ref Dl) H' := fun m' H' p => by
    obtain ⟨a1, a2, a3⟩ := lcP_end hD p
    have q2 : AfterM X.K X.mg W σ m1 H1 (some (Except.ok (D.loc hs2.length), hs2 ++ [O.lst ys])) fun d m' _ H' => ∀ v, RV X.K X.mg m' H' d v → Q v H' := by
      have e : M.bind (M.lift (comp2S src.ok TT src.items [])) (fun xs => M.lift (newL xs)) hs1 = some (Except.ok (D.loc hs2.length), hs2 ++ [O.lst ys]) := by
        unfold M.bind M.lift
        rw [ec]
        rfl
      rw [← e]
      exact q1
    exact q2 (m' ++ [Dl]) H' a1 a2 _ a3
  refine ⟨fun i k H' => k = src.items.length - i ∧ i ≤ src.items.length ∧ ∃ m' hs' acc, LcP X.K X.mg m1 H1 Dl acc m' hs' H' ∧ comp2S src.ok TT (src.items.drop i) acc hs' = some (ys, hs2),
    ⟨_, rfl, Nat.zero_le _, m1, hs1, [], ⟨x0, hr1.upd_new hD, hr1.fresh hD, [], upd_same, RVs.nil_iff.mpr rfl⟩, by simpa using ec⟩, ?_⟩
  rintro i k H' ⟨rfl, hi', m', hs', acc, p, q'⟩
  by_cases hlt : i < src.items.length
  · have hd : src.items.drop i = src.items[i] :: src.items.drop (i + 1) := List.drop_eq_getElem_cons hlt
    rw [hd] at q'
    simp only [comp2S] at q'
    split at q'
    · rename_i ok
      refine .inr ⟨j.go i m' hs' H' hlt p.x.wk p.hr ok, fun H2 => ∃ m2 hs3 acc2, LcP X.K X.mg m1 H1 Dl acc2 m2 hs3 H2 ∧ comp2S src.ok TT (src.items.drop (i + 1)) acc2 hs3 = some (ys, hs2),
        fun H2 h2 => ⟨_, by omega, rfl, hlt, h2⟩, fun v H2 y => ?_⟩
      obtain ⟨d, hd2, x2, hr2, rd⟩ := j.yl i m' hs' H' v H2 p.x.wk p.hr ok y hlt
      have ed : src.items[i] = d := by
        rw [List.getElem?_eq_getElem hlt] at hd2
        exact Option.some.inj hd2
      rw [ed] at q'
      have p2 := lcP_on p x2 hr2
      have rw2 : RS X.K X.mg m' H2 (wipeE ev vs) (L2.wipe σ vs) := ((rs1.mono p.x).mono x2).wipe vs
      cases et : TT d acc hs' with
      | none => rw [et] at q'; cases q'
      | some r =>
        obtain ⟨acc2, h1⟩ := r
        rw [et] at q'
        simp only at q'
        rw [hTT] at et
        unfold turn2 at et
        cases ea : asg t d (wipeE ev vs) with
        | none => rw [ea] at et; cases et
        | some e2 =>
          rw [ea] at et
          simp only at et
          refine ⟨m', wipeE ev vs, d, e2, rw2, rd, ea, fun is ws his r2 => ⟨?_, ?_⟩⟩
          · rw [wipe_sets (fun i hi => hsl i (by rw [his]; exact hi)), wipe_wipe]
          · refine ⟨m', e2, hs', r2, hr2, ?_⟩
            cases ef : ft e2 hs' with
            | none => rw [ef] at et; cases et
            | some z =>
              obtain ⟨z, h2⟩ := z
              rw [ef] at et
              cases z with
              | error x => cases et
              | ok b =>
                intro m3 H3 x3 hr3
                cases b with
                | false =>
                  rw [if_neg Bool.false_ne_true]
                  cases et
                  exact ⟨m3, h1, acc, lcP_on p2 x3 hr3, q'⟩
                | true =>
                  rw [if_pos rfl]
                  simp only at et
                  refine ⟨m3, e2, h2, r2.mono x3, hr3, ?_⟩
                  cases eg : fi1 e2 h2 with
                  | none => rw [eg] at et; cases et
                  | some z =>
                    obtain ⟨z, h3⟩ := z
                    rw [eg] at et
                    cases z with
                    | error x => cases et
                    | ok src1 =>
                      simp only at et
                      intro m4 H4 x4 hr4 J1 j1
                      have p4 := lcP_on (lcP_on p2 x3 hr3) x4 hr4
                      have r4 := (r2.mono x3).mono x4
                      refine ⟨fun i1 k1 H' => k1 = src1.items.length - i1 ∧ i1 ≤ src1.items.length ∧ ∃ m' hs' acc', LcP X.K X.mg m1 H1 Dl acc' m' hs' H' ∧ Wk X.K m4 H4 m' H' ∧ compS src1.ok (turnM t1 ft1 fe (wipeE e2 vs1)) (src1.items.drop i1) acc' hs' = some (acc2, h1),
                        ⟨_, rfl, Nat.zero_le _, m4, h3, acc, p4, Ext.refl.wk, by simpa using et⟩, ?_⟩
                      rintro i1 k1 H5 ⟨rfl, hi1, m5, hs5, acc5, p5, w5, q5⟩
                      by_cases hlt1 : i1 < src1.items.length
                      · have hd1 : src1.items.drop i1 = src1.items[i1] :: src1.items.drop (i1 + 1) := List.drop_eq_getElem_cons hlt1
                        rw [hd1] at q5
                        simp only [compS] at q5
                        split at q5
                        · rename_i ok1
                          refine .inr ⟨j1.go i1 m5 hs5 H5 hlt1 w5 p5.hr ok1, fun H2 => ∃ m2 hs3 acc', LcP X.K X.mg m1 H1 Dl acc' m2 hs3 H2 ∧ Wk X.K m4 H4 m2 H2 ∧ compS src1.ok (turnM t1 ft1 fe (wipeE e2 vs1)) (src1.items.drop (i1 + 1)) acc' hs3 = some (acc2, h1),
                            fun H2 h2 => ⟨_, by omega, rfl, hlt1, h2⟩, fun v1 H6 y1 => ?_⟩
                          obtain ⟨d1, hd3, x6, hr6, rd6⟩ := j1.yl i1 m5 hs5 H5 v1 H6 w5 p5.hr ok1 y1 hlt1
                          have ed1 : src1.items[i1] = d1 := by
                            rw [List.getElem?_eq_getElem hlt1] at hd3
                            exact Option.some.inj hd3
                          rw [ed1] at q5
                          have p6 := lcP_on p5 x6 hr6
                          have w6 := w5.trans x6.wk
                          have rw6 : RS X.K X.mg m5 H6 (wipeE e2 vs1) (L2.wipe (setsV (L2.wipe σ vs) is ws) vs1) := (r4.monoW w6).wipe vs1
                          cases et1 : turnM t1 ft1 fe (wipeE e2 vs1) d1 hs5 with
                          | none => rw [et1] at q5; cases q5
                          | some r =>
                            obtain ⟨r, h6⟩ := r
                            rw [et1] at q5
                            cases r with
                            | error x => cases q5
                            | ok o =>
                              unfold turnM at et1
                              cases ea1 : asg t1 d1 (wipeE e2 vs1) with
                              | none => rw [ea1] at et1; cases et1
                              | some e3 =>
                                rw [ea1] at et1
                                simp only [M.bind] at et1
                                refine ⟨m5, wipeE e2 vs1, d1, e3, rw6, rd6, ea1, fun is1 ws1 his1 r7 => ⟨?_, ?_⟩⟩
                                · rw [wipe_sets (fun i hi => hsl1 i (by rw [his1]; exact hi)), wipe_wipe]
                                · refine ⟨m5, e3, hs5, r7, hr6, ?_⟩
                                  cases ef1 : ft1 e3 hs5 with
                                  | none => rw [ef1] at et1; cases et1
                                  | some z =>
                                    obtain ⟨z, h7⟩ := z
                                    rw [ef1] at et1
                                    cases z with
                                    | error x => cases et1
                                    | ok b =>
                                      intro m8 H8 x8 hr8
                                      simp only at et1
                                      cases b with
                                      | false =>
                                        rw [if_neg Bool.false_ne_true] at et1 ⊢
                                        cases et1
                                        exact ⟨m8, h6, acc5, lcP_on p6 x8 hr8, w6.trans x8.wk, q5⟩
                                      | true =>
                                        rw [if_pos rfl] at et1 ⊢
                                        refine ⟨m8, e3, h7, r7.mono x8, hr8, ?_⟩
                                        unfold M.bind at et1
                                        cases eg1 : fe e3 h7 with
                                        | none => rw [eg1] at et1; cases et1
                                        | some z =>
                                          obtain ⟨z, h9⟩ := z
                                          rw [eg1] at et1
                                          cases z with
                                          | error x => cases et1
                                          | ok y =>
                                            cases et1
                                            intro m9 H9 x9 hr9 v9 r9
                                            simp only at q5
                                            split at q5
                                            · have p9 := lcP_on (lcP_on p6 x8 hr8) x9 hr9
                                              obtain ⟨us, a1, a2⟩ := p9.at_
                                              exact ⟨us, a1, by rw [← a2.length]; assumption, m9, h6, acc5 ++ [y], lcP_add hD p9 r9 a1 a2, ((w6.trans x8.wk).trans x9.wk).trans (lcP_wk a1), q5⟩
                                            · cases q5
                        · cases q5
                      · have e : i1 = src1.items.length := by omega
                        subst e
                        rw [List.drop_length] at q5
                        simp only [compS] at q5
                        split at q5
                        · rename_i ok1
                          cases q5
                          exact .inl ⟨j1.st m5 _ H5 w5 p5.hr ok1, m5, _, _, p5, q'⟩
                        · cases q5
    · cases q'
  · have e : i = src.items.length := by omega
    subst e
    rw [List.drop_length] at q'
    simp only [comp2S] at q'
    split at q'
    · rename_i ok
      cases q'
      exact .inl ⟨j.st m' _ H' p.x.wk p.hr ok, fin m' H' p⟩
    · cases q'
end

section
variable {X : Cx} {W : WX} {elt tg iter tg1 iter1 : Expr} {ifs ifs1 : List Expr} {scope : Scope} {own : List (Str × Nat)} {vs1 : List Nat} {pos spos : Pos} {fi fi1 : Ev → M Src} {t t1 : Tg} {ft ft1 : Ev → M Bool} {fe : Ev → M D}
theorem de_lc2 (hc : X.calm = true) (hN : X.N.Nodup) (hi : DI X W tg iter fi) (ok : BlkOk X.N X.env.scope scope own) (hsl : ∀ i ∈ t.slots, i ∈ own.map (·.2)) (hsl1 : ∀ i ∈ t1.slots, i ∈ own.map (·.2))
    (hg : ∀ (s : Shared) (H : Hp) (C : Addr) (cl : List (Str × Addr)) (fp : List Addr), PG (X.blk s H scope (compEnvC scope cl C X.env) fp) tg (gD X.K X.mg t))
    (ht : ∀ (s : Shared) (H : Hp) (C : Addr) (cl : List (Str × Addr)) (fp : List Addr), DTs (X.blk s H scope (compEnvC scope cl C X.env) fp) WF ifs ft)
    (hi1 : ∀ (s : Shared) (H : Hp) (C : Addr) (cl : List (Str × Addr)) (fp : List Addr), DI (X.blk s H scope (compEnvC scope cl C X.env) fp) WF tg1 iter1 fi1)
    (hg1 : ∀ (s : Shared) (H : Hp) (C : Addr) (cl : List (Str × Addr)) (fp : List Addr), PG (X.blk s H scope (compEnvC scope cl C X.env) fp) tg1 (gD X.K X.mg t1))
    (ht1 : ∀ (s : Shared) (H : Hp) (C : Addr) (cl : List (Str × Addr)) (fp : List Addr), DTs (X.blk s H scope (compEnvC scope cl C X.env) fp) WF ifs1 ft1)
    (he : ∀ (s : Shared) (H : Hp) (C : Addr) (cl : List (Str × Addr)) (fp : List Addr), DE (X.blk s H scope (compEnvC scope cl C X.env) fp) WF elt fe) (hs : ∀ x, foldedSetIterable iter X.env x = pure x) (hs1 : ∀ env x, foldedSetIterable iter1 env x = pure x) :
    DE X W (.ListComp elt [⟨tg, iter, ifs, 0⟩, ⟨tg1, iter1, ifs1, 0⟩] scope pos) (comp2M (own.map (·.2)) t1.slots t fi ft t1 fi1 ft1 fe) := (pe_lc2 hc hN hi ok hsl1 hg ht hi1 hg1 ht1 he hs hs1).imp fun _ _ _ h => lc2_read hsl (fun _ h => h) h
theorem ds_setLc2 {i : Nat} {y : Str} {py : Pos} (hc : X.calm = true) (hN : X.N.Nodup) (hy : X.N[i]? = some y) (hyl : X.env.scope.names.lookup y = some .local)
    (hsw : swapsWith (.ListComp elt [⟨tg, iter, ifs, 0⟩, ⟨tg1, iter1, ifs1, 0⟩] scope pos) (some (.Name y py)) spos.line X.env = pure true) (hi : DI X W tg iter fi) (ok : BlkOk X.N X.env.scope scope own) (hsl : ∀ i ∈ t.slots, i ∈ own.map (·.2)) (hsl1 : ∀ i ∈ t1.slots, i ∈ own.map (·.2))
    (hg : ∀ (s : Shared) (H : Hp) (C : Addr) (cl : List (Str × Addr)) (fp : List Addr), PG (X.blk s H scope (compEnvC scope cl C X.env) fp) tg (gD X.K X.mg t))
    (ht : ∀ (s : Shared) (H : Hp) (C : Addr) (cl : List (Str × Addr)) (fp : List Addr), DTs (X.blk s H scope (compEnvC scope cl C X.env) fp) WF ifs ft)
    (hi1 : ∀ (s : Shared) (H : Hp) (C : Addr) (cl : List (Str × Addr)) (fp : List Addr), DI (X.blk s H scope (compEnvC scope cl C X.env) fp) WF tg1 iter1 fi1)
    (hg1 : ∀ (s : Shared) (H : Hp) (C : Addr) (cl : List (Str × Addr)) (fp : List Addr), PG (X.blk s H scope (compEnvC scope cl C X.env) fp) tg1 (gD X.K X.mg t1))
    (ht1 : ∀ (s : Shared) (H : Hp) (C : Addr) (cl : List (Str × Addr)) (fp : List Addr), DTs (X.blk s H scope (compEnvC scope cl C X.env) fp) WF ifs1 ft1)
    (he : ∀ (s : Shared) (H : Hp) (C : Addr) (cl : List (Str × Addr)) (fp : List Addr), DE (X.blk s H scope (compEnvC scope cl C X.env) fp) WF elt fe) (hs : ∀ x, foldedSetIterable iter X.env x = pure x) (hs1 : ∀ env x, foldedSetIterable iter1 env x = pure x) :
    DS X W (.Assign [.Name y py] (.ListComp elt [⟨tg, iter, ifs, 0⟩, ⟨tg1, iter1, ifs1, 0⟩] scope pos) spos) (asgS (.one i) (comp2M (own.map (·.2)) t1.slots t fi ft t1 fi1 ft1 fe)) :=
  (ps_setLc2 hc hN hy hyl hsw hi ok hsl1 hg ht hi1 hg1 ht1 he hs hs1).imp fun D σ H ⟨m, ev, hs, rs, hr, q⟩ => lc2_read hsl (fun _ h => h) ⟨m, ev, hs, rs, hr, (q.expr rs).mono fun d m1 hs1 H1 e1 hr1 q1 v rv => q1 m1 H1 _ .refl hr1 ((rs.mono e1).set rv i)⟩
end

theorem ixN_nat0 {n : Nat} {i : Int} (h0 : 0 ≤ i) (h : i < n) : ixN n i = some i.toNat := by
  unfold ixN
  rw [if_pos h0, if_pos h]
/-! ## methods of built-in types -/
def chkTy (T : String) (d : D) : M Unit := fun hs => if tyD hs d = some T ∧ (T = "list" ∨ T = "str") then some (.ok (), hs) else none
theorem tyV_of {K : PySem.W.Frag} {mg : Str → Option Value} {m : List Addr} {H : Hp} {hs : Hs} {d : D} {v : V} {T : String} (hr : HR K mg m hs H) (r : RV K mg m H d v) (h : tyD hs d = some T) (hT : T = "list" ∨ T = "str") : tyV K T v H := by
  cases d with
  | non => cases h; rcases hT with h | h <;> exact absurd h (by decide)
  | bl b => cases h; rcases hT with h | h <;> exact absurd h (by decide)
  | int i => cases h; rcases hT with h | h <;> exact absurd h (by decide)
  | str x => cases h; obtain rfl := rv_str r; rfl
  | tup xs => cases h; rcases hT with h | h <;> exact absurd h (by decide)
  | frl xs => cases h; obtain ⟨a, vs, rfl, h1, _⟩ := rv_frl r; exact .inl ⟨rfl, vs, h1.sql⟩
  | loc n =>
    obtain ⟨a, rfl, hm⟩ := rv_loc r
    simp only [tyD] at h
    split at h
    · rename_i xs e
      cases h
      obtain ⟨vs, h1, h2⟩ := hr.lst_at hm e
      exact .inl ⟨rfl, vs, SqL.of h1⟩
    · cases h; rcases hT with h | h <;> exact absurd h (by decide)
    · cases h
  | glo _ => cases h
  | exv => cases h
  | ty _ => cases h
def methM (T : String) (f : D → List D → P D) (fo : Ev → M D) (fs : Ev → M (List D)) : Ev → M D := fun e => M.bind (fo e) fun x => M.bind (chkTy T x) fun _ => M.bind (fs e) fun xs => M.lift (f x xs)
def rMt (K : PySem.W.Frag) (mg : Str → Option Value) (f : D → List D → P D) : V → List V → Hp → VK → Prop := fun x vs H Q => ∃ m hs a ds d hs', HR K mg m hs H ∧ RV K mg m H a x ∧ RVs K mg m H ds vs ∧ f a ds hs = some (d, hs') ∧ Bk K mg m H d hs' Q
variable {o a : Expr} {es : List Expr} {fo : Ev → M D} {fs : Ev → M (List D)} {name : Str} {apos cpos : Pos} {T id : String} {f : D → List D → P D}
theorem chk_ok {K : PySem.W.Frag} {mg : Str → Option Value} {W : WX} {σ : L2.St} {m : List Addr} {H : Hp} {hs : Hs} {d : D} {v : V} {Q : Unit → List Addr → Hs → Hp → Prop} (h : AfterM K mg W σ m H (chkTy T d hs) Q) (hr : HR K mg m hs H) (r : RV K mg m H d v) : tyV K T v H ∧ Q () m hs H := by
  unfold chkTy at h
  split at h
  · rename_i hc
    exact ⟨tyV_of hr r hc.1 hc.2, h m H .refl hr⟩
  · exact h.elim
theorem de_bm (pa : PlainAttrs T) (slot : Slot T name id) (hty : typeOf (.builtin id) = pure (.type "method_descriptor")) (hm : MtR X id (rMt X.K X.mg f)) (ho : DE X W o fo) (ha : DA X W (a :: es) fs) (hb : plainBase o = true) (hp : plainArgs (a :: es) = true)
    (hl : (a :: es).length < 30) (hline : (apos.endLine == cpos.line) = true) : DE X W (.Call (.Attribute o name apos) (a :: es) [] cpos) (methM T f fo fs) := by
  have hp' := hp
  simp only [plainArgs, Bool.and_eq_true] at hp'
  refine (pe_bm pa slot hty hm ho ha (base_plain hb) ?_ hline (star_cons hp'.1) (any_plain hp'.2)).imp fun σ H Q ⟨m, ev, hs, rs, hr, q⟩ => ⟨m, ev, hs, rs, hr, q.bind.mono fun x m1 hs1 H1 e1 hr1 q1 v rv => ?_⟩
  · rw [all_plain hp]
    simp [backToKw, keywordEach]
    simpa using hl
  · obtain ⟨ty, q2⟩ := chk_ok q1.bind hr1 rv
    refine ⟨ty, m1, ev, hs1, rs.mono e1, hr1, q2.bind.mono fun xs m2 hs2 H2 e2 hr2 q3 vs rvs => ?_⟩
    obtain ⟨d, hs3, e, k⟩ := q3.lift
    exact ⟨m2, hs2, x, xs, d, hs3, hr2, rv.mono e2, rvs, e, fun m' H' v e hr r => k m' H' e hr v r⟩
theorem de_bm0 (pa : PlainAttrs T) (slot : Slot T name id) (hty : typeOf (.builtin id) = pure (.type "method_descriptor")) (hm : MtR X id (rMt X.K X.mg f)) (ho : DE X W o fo) (hb : plainBase o = true)
    (hline : (apos.endLine == cpos.line) = true) : DE X W (.Call (.Attribute o name apos) [] [] cpos) (methM T f fo fun _ => M.pure []) := by
  refine (pe_bm0 pa slot hty hm ho (base_plain hb) hline).imp fun σ H Q ⟨m, ev, hs, rs, hr, q⟩ => ⟨m, ev, hs, rs, hr, q.bind.mono fun x m1 hs1 H1 e1 hr1 q1 v rv => ?_⟩
  obtain ⟨ty, q2⟩ := chk_ok q1.bind hr1 rv
  obtain ⟨d, hs3, e, k⟩ := (q2.bind.pure hr1).lift
  exact ⟨ty, m1, hs1, x, [], d, hs3, hr1, rv, RVs.nil_iff.mpr rfl, e, fun m' H' v e hr r => k m' H' e hr v r⟩
def appendD (x : D) (ds : List D) : P D := fun hs => match x, ds with
  | .loc n, [d] => match hs[n]? with
    | some (.lst xs) => if xs.length < sizeLine then some (.non, hs.set n (.lst (xs ++ [d]))) else none
    | _ => none
  | _, _ => none
theorem appendD_ok : MtR X "list.append" (rMt X.K X.mg appendD) := by
  intro pins s σ H x vs v us Q I rx rvs h
  obtain ⟨m, hs, a, ds, d, hs', hr, ra, rds, hf, k⟩ := h
  unfold appendD at hf
  split at hf
  · rename_i n y
    split at hf
    · rename_i xs e
      split at hf
      · rename_i hz
        cases hf
        obtain ⟨p, rfl, hm⟩ := rv_loc ra
        obtain ⟨w, rfl, rw⟩ := rvs1 rds
        obtain ⟨ws, h1, h2⟩ := hr.lst_at hm e
        have x := Ext.write (K := X.K) (u := .lst (ws ++ [w])) hm h1 lst_plain
        refine mt_append pins s σ H _ _ v us Q I rx rvs ⟨p, ws, w, rfl, rfl, h1, by rw [← h2.length]; exact hz, ?_⟩
        exact k m _ _ x (hr.write hm h1 lst_plain ⟨_, upd_same, (h2.mono x).append (RVs.cons (rw.mono x) (RVs.nil_iff.mpr rfl))⟩) mk_non
      · cases hf
    · cases hf
  · cases hf
def extendD (x : D) (ds : List D) : P D := fun hs => match x, ds with
  | .loc n, [.loc k] => match hs[n]?, hs[k]? with
    | some (.lst xs), some (.lst ys) => if xs.length + ys.length ≤ sizeLine then some (.non, hs.set n (.lst (xs ++ ys))) else none
    | _, _ => none
  | _, _ => none
theorem extendD_ok : MtR X "list.extend" (rMt X.K X.mg extendD) := by
  intro pins s σ H x vs v us Q I rx rvs h
  obtain ⟨m, hs, a, ds, d, hs', hr, ra, rds, hf, k⟩ := h
  unfold extendD at hf
  split at hf
  · rename_i n j
    split at hf
    · rename_i xs ys e e2
      split at hf
      · rename_i hz
        cases hf
        obtain ⟨p, rfl, hm⟩ := rv_loc ra
        obtain ⟨w, rfl, rw⟩ := rvs1 rds
        obtain ⟨p2, rfl, hm2⟩ := rv_loc rw
        obtain ⟨ws, h1, h2⟩ := hr.lst_at hm e
        obtain ⟨zs, h3, h4⟩ := hr.lst_at hm2 e2
        have x := Ext.write (K := X.K) (u := .lst (ws ++ zs)) hm h1 lst_plain
        have l1 := h2.length
        have l2 := h4.length
        refine mt_extend pins s σ H _ _ v us Q I rx rvs ⟨p, p2, ws, zs, rfl, rfl, h1, h3, by omega, ?_⟩
        exact k m _ _ x (hr.write hm h1 lst_plain ⟨_, upd_same, (h2.mono x).append (h4.mono x)⟩) mk_non
      · cases hf
    · cases hf
  · cases hf
def popD (x : D) (ds : List D) : P D := fun hs => match x, ds with
  | .loc n, [] => match hs[n]? with
    | some (.lst xs) => match xs[xs.length - 1]? with
      | some y => some (y, hs.set n (.lst xs.dropLast))
      | none => none
    | _ => none
  | _, _ => none
theorem RVs.dropLast {K : PySem.W.Frag} {mg : Str → Option Value} {m : List Addr} {H : Hp} {xs : List D} {vs : List V} (h : RVs K mg m H xs vs) : RVs K mg m H xs.dropLast vs.dropLast := by
  rw [List.dropLast_eq_take, List.dropLast_eq_take, ← h.length]
  exact h.take _
theorem popD_ok : MtR X "list.pop" (rMt X.K X.mg popD) := by
  intro pins s σ H x vs v us Q I rx rvs h
  obtain ⟨m, hs, a, ds, d, hs', hr, ra, rds, hf, k⟩ := h
  unfold popD at hf
  split at hf
  · rename_i n
    split at hf
    · rename_i xs e
      split at hf
      · rename_i y ey
        cases hf
        obtain ⟨p, rfl, hm⟩ := rv_loc ra
        rw [RVs.nil_iff] at rds
        subst rds
        obtain ⟨ws, h1, h2⟩ := hr.lst_at hm e
        have x := Ext.write (K := X.K) (u := .lst ws.dropLast) hm h1 lst_plain
        obtain ⟨w, hw, rw⟩ := h2.get ey
        refine mt_pop pins s σ H _ _ v us Q I rx rvs ⟨p, ws, w, rfl, rfl, h1, by rw [← h2.length]; exact hw, ?_⟩
        exact k m _ _ x (hr.write hm h1 lst_plain ⟨_, upd_same, (h2.mono x).dropLast⟩) (rw.mono x)
      · cases hf
    · cases hf
  · cases hf
def popAtD (x : D) (ds : List D) : P D := fun hs => match x, ds with
  | .loc n, [.int i] => match hs[n]? with
    | some (.lst xs) => if 0 ≤ i ∧ i < xs.length ∧ i < 2 ^ 62 then (match xs[i.toNat]? with
      | some y => some (y, hs.set n (.lst (xs.eraseIdx i.toNat)))
      | none => none) else none
    | _ => none
  | _, _ => none
theorem RVs.eraseIdx {K : PySem.W.Frag} {mg : Str → Option Value} {m : List Addr} {H : Hp} : ∀ {xs : List D} {vs : List V} (i : Nat), RVs K mg m H xs vs → RVs K mg m H (xs.eraseIdx i) (vs.eraseIdx i)
  | [], _, _, h => by rw [RVs.nil_iff] at h; subst h; exact RVs.nil_iff.mpr rfl
  | x :: xs, _, 0, h => by
    obtain ⟨v, r, rfl, q1, q2⟩ := RVs.cons_iff.mp h
    exact q2
  | x :: xs, _, i + 1, h => by
    obtain ⟨v, r, rfl, q1, q2⟩ := RVs.cons_iff.mp h
    exact RVs.cons q1 (RVs.eraseIdx i q2)
theorem popAtD_ok : MtR X "list.pop" (rMt X.K X.mg popAtD) := by
  intro pins s σ H x vs v us Q I rx rvs h
  obtain ⟨m, hs, a, ds, d, hs', hr, ra, rds, hf, k⟩ := h
  unfold popAtD at hf
  split at hf
  · rename_i n i
    split at hf
    · rename_i xs e
      split at hf
      · rename_i hi
        split at hf
        · rename_i y ey
          cases hf
          obtain ⟨p, rfl, hm⟩ := rv_loc ra
          obtain ⟨w, rfl, rw⟩ := rvs1 rds
          obtain rfl := rv_int rw
          obtain ⟨ws, h1, h2⟩ := hr.lst_at hm e
          have hl := h2.length
          have x := Ext.write (K := X.K) (u := .lst (ws.eraseIdx i.toNat)) hm h1 lst_plain
          obtain ⟨w, hw, rw⟩ := h2.get ey
          refine mt_popAt pins s σ H _ _ v us Q I rx rvs ⟨p, ws, i, i.toNat, w, rfl, rfl, h1, by omega, by omega, (ixN_seq (ixN_nat0 hi.1 (by omega))).1, hw, ?_⟩
          exact k m _ _ x (hr.write hm h1 lst_plain ⟨_, upd_same, (h2.mono x).eraseIdx _⟩) (rw.mono x)
        · cases hf
      · cases hf
    · cases hf
  · cases hf
def indexD (x : D) (ds : List D) : P D := fun hs => match ds with
  | [y] => match x.data hs, y.data hs with
    | some (.list ps), some p => if (SeqAt.shaped (.list ps) && SeqAt.shaped p) = true then (match ps.findIdx? (fun z => PyData.eqv z p) with
      | some j => some (.int (j : Nat), hs)
      | none => none) else none
    | _, _ => none
  | _ => none
theorem dp_list_ref {K : PySem.W.Frag} {H : Hp} {v : V} {ps : List PyData} (h : Dp K H v (.list ps)) : ∃ a, v = .ref a := by
  cases h
  exact ⟨_, rfl⟩
theorem indexD_ok (hu : X.A.units + 65 < cLine) : MtR X "list.index" (rMt X.K X.mg indexD) := by
  intro pins s σ H x vs v us Q I rx rvs h
  obtain ⟨m, hs, a, ds, d, hs', hr, ra, rds, hf, k⟩ := h
  unfold indexD at hf
  split at hf
  · rename_i y
    split at hf
    · rename_i ps p e1 e2
      split at hf
      · rename_i hc
        rw [Bool.and_eq_true] at hc
        split at hf
        · rename_i j ej
          cases hf
          obtain ⟨w, rfl, rw⟩ := rvs1 rds
          have d1 := data_ok hr e1 ra
          have d2 := data_ok hr e2 rw
          obtain ⟨b, rfl⟩ := dp_list_ref d1
          obtain ⟨hj, q1, q2⟩ := List.findIdx?_eq_some_iff_getElem.mp ej
          refine mt_indexD hu pins s σ H _ _ v us Q I rx rvs ⟨b, w, p, ps, j, ps[j], rfl, rfl, d1, d2, hc.1, hc.2, by simp [hj], q1, fun i z hi hz => ?_, k.here hr mk_int⟩
          have hl : i < ps.length := by omega
          rw [List.getElem?_eq_getElem hl] at hz
          obtain rfl := Option.some.inj hz
          simpa using q2 i hi
        · cases hf
      · cases hf
    · cases hf
  · cases hf
/-! texts -/
/-- texts alone -/
def strsD : List D → Option (List Str)
  | [] => some []
  | .str x :: ds => (strsD ds).map (x :: ·)
  | _ :: _ => none
theorem strsD_rv {K : PySem.W.Frag} {mg : Str → Option Value} {m : List Addr} {H : Hp} : ∀ {ds : List D} {ns : List Str} {vs : List V}, strsD ds = some ns → RVs K mg m H ds vs → vs = ns.map .str
  | [], _, _, h, r => by cases h; rw [RVs.nil_iff] at r; subst r; rfl
  | d :: ds, _, _, h, r => by
    obtain ⟨v, w, rfl, r1, r2⟩ := RVs.cons_iff.mp r
    cases d <;> simp only [strsD] at h <;> try cases h
    obtain ⟨ns, e, rfl⟩ := Option.map_eq_some_iff.mp h
    obtain rfl := rv_str r1
    rw [strsD_rv e r2]
    rfl
def itemsOf (hs : Hs) : D → Option (List D)
  | .tup xs => some xs
  | d => listOf hs d
def joinOk (a : Str) (ys : List Str) : Prop := (ys.map (·.length)).sum + ys.length * a.length ≤ 16777216
open Classical in
noncomputable def joinD (x : D) (ds : List D) : P D := fun hs => match x, ds with
  | .str a, [d] => match itemsOf hs d with
    | some xs => match strsD xs with
      | some ys => if joinOk a ys then some (.str (Txt.join a ys), hs) else none
      | none => none
    | none => none
  | _, _ => none
theorem joinD_ok : MtR X "str.join" (rMt X.K X.mg joinD) := by
  intro pins s σ H x vs v us Q I rx rvs h
  obtain ⟨m, hs, a, ds, d, hs', hr, ra, rds, hf, k⟩ := h
  unfold joinD at hf
  split at hf
  · rename_i z y
    split at hf
    · rename_i xs ex
      split at hf
      · rename_i ys ey
        split at hf
        · rename_i hj
          cases hf
          obtain rfl := rv_str ra
          obtain ⟨w, rfl, rw⟩ := rvs1 rds
          have q : ∃ p, w = .ref p ∧ (SqL X.K H p (ys.map V.str) ∨ SqT X.K H p (ys.map V.str)) := by
            unfold itemsOf at ex
            split at ex
            · cases ex
              obtain ⟨p, ws, rfl, h1, h2⟩ := rv_tup rw
              rw [strsD_rv ey h2] at h1
              exact ⟨p, rfl, .inr h1⟩
            · obtain ⟨p, ws, rfl, h1, h2⟩ := list_of hr rw ex
              rw [strsD_rv ey h2] at h1
              exact ⟨p, rfl, .inl h1⟩
          obtain ⟨p, rfl, hp⟩ := q
          exact mt_join pins s σ H _ _ v us Q I rx rvs ⟨z, p, ys, rfl, rfl, hp, hj, k.here hr mk_str⟩
        · cases hf
      · cases hf
    · cases hf
  · cases hf
def splitD (x : D) (ds : List D) : P D := fun hs => match x, ds with
  | .str a, [.str b] => if (b.length == 0) = false ∧ a.length + 2 ≤ sizeLine then newL ((Txt.split a b).map D.str) hs else none
  | _, _ => none
theorem rvs_strs {K : PySem.W.Frag} {mg : Str → Option Value} {m : List Addr} {H : Hp} : ∀ ys : List Str, RVs K mg m H (ys.map D.str) (ys.map V.str)
  | [] => RVs.nil_iff.mpr rfl
  | y :: ys => RVs.cons mk_str (rvs_strs ys)
theorem splitD_ok : MtR X "str.split" (rMt X.K X.mg splitD) := by
  intro pins s σ H x vs v us Q I rx rvs h
  obtain ⟨m, hs, a, ds, d, hs', hr, ra, rds, hf, k⟩ := h
  unfold splitD at hf
  split at hf
  · rename_i z y
    split at hf
    · rename_i hc
      cases hf
      obtain rfl := rv_str ra
      obtain ⟨w, rfl, rw⟩ := rvs1 rds
      obtain rfl := rv_str rw
      exact mt_split pins s σ H _ _ v us Q I rx rvs ⟨z, y, rfl, rfl, hc.1, hc.2, fun p hp => k.lst hr (rvs_strs _) hp⟩
    · cases hf
  · cases hf
end
end DL
set_option Elab.async false
set_option linter.all false
set_option maxRecDepth 100000
set_option maxHeartbeats 4000000
namespace DL
open PySem PySem.Spec PyProof.Rows L2

/-! ## repr -/
def reprD (ds : List D) : P D := fun hs => match ds with
  | [d] => match d.data hs with
    | some p => if (p.showable && !p.hasDict && decide (p.depth ≤ 60) && decide (p.shown.length ≤ sizeLine)) = true then some (.str p.shown, hs) else none
    | none => none
  | _ => none
section
variable {X : Cx}
theorem reprD_ok (gd : X.A.guards = some []) (hu : X.A.units + 65 < cLine) : CallR X (.builtin "repr") (rPn X.K X.mg reprD) := by
  intro pins s σ H vs us Q I r h
  obtain ⟨m, hs, ds, d, hs', hr, rs, hf, k⟩ := h
  unfold reprD at hf
  split at hf
  · rename_i d0
    split at hf
    · rename_i p ep
      split at hf
      · rename_i hc
        cases hf
        simp only [Bool.and_eq_true, decide_eq_true_eq, Bool.not_eq_true'] at hc
        obtain ⟨⟨⟨h1, h2⟩, h3⟩, h4⟩ := hc
        obtain ⟨v, rfl, r1⟩ := rvs1 rs
        have dp := data_ok hr ep r1
        cases r with
        | cons ru rr =>
          rename_i u ut
          cases rr
          obtain ⟨as, rd⟩ := Dp.reads I p v u dp ru
          have told := k.here hr (mk_str (i := p.shown) (m := m) (H := H))
          have fin : ∀ {h' : Heap} {tk : Nat} {t : Tok}, (∀ b o, s.heap.get? b = some o → h'.get? b = some o) → EP X pins σ Q (.str p.shown t) { s with heap := h', toks := tk } := fun {h' tk t} hk => ⟨.str p.shown, H, I.kept hk, ⟨t, rfl⟩, told⟩
          cases rd with
          | none => exact P.repr_of_none (fin fun _ _ e => e)
          | bool b => exact P.repr_of_bool (fin fun _ _ e => e)
          | int i t => exact P.repr_of_int (by simpa [PyData.showable] using h1) (fin fun _ _ e => e)
          | str x t => exact P.repr_of_str (fin fun _ _ e => e) h4
          | list a b c e => exact repr_of_reads' (.list a b c e) h1 (PyData.noDict_hsm h2) gd (by omega) (fun _ _ e => e) (fun h' u tk hk => fin hk) h4
          | tuple a b c e => exact repr_of_reads' (.tuple a b c e) h1 (PyData.noDict_hsm h2) gd (by omega) (fun _ _ e => e) (fun h' u tk hk => fin hk) h4
          | dict a b c e f => exact absurd h2 (by simp [PyData.hasDict])
      · cases hf
    · cases hf
  · cases hf
/-! ## {} -/
def nilDict : Ev → M D := fun _ hs => some (.ok (.loc hs.length), hs ++ [.dct []])
theorem de_nilDict {W : WX} {pos : Pos} : DE X W (.Dict [] [] pos) nilDict := pe_dnewK.imp fun σ H Q ⟨m, ev, hs, rs, hr, q⟩ p hp => by
  have x := Ext.push (K := X.K) (o := .dK []) hp (m := m)
  exact q (m ++ [p]) _ x (hr.push hp ⟨[], upd_same, rfl⟩) _ (by simp only [RV]; exact ⟨p, rfl, by rw [← hr.len]; simp⟩)
end
end DL
set_option Elab.async false
set_option linter.all false
set_option maxRecDepth 100000
set_option maxHeartbeats 4000000
namespace DL
open PySem PySem.Spec PyProof.Rows L2

/-! ## sorted(set(xs)) of ints -/
section
variable {P : Program} {w : World} {A : Around} {E : Value → Shared → Prop} {z0 : Shared}
set_option maxRecDepth 100000 in
set_option maxHeartbeats 3200000 in
theorem call_set_lstR {lx : Addr} {its0 : Array Value} (kis : List Int) {Q : Value → Shared → Prop} (hcalm : A.handled = none) (hlst : z0.heap.IsList lx its0) (hints : IntsAre its0.toList kis) (hroom : kis.length + 1 < scanBound)
    (fin : ∀ (h8 : Heap) (tk c : Nat), SetR w h8 z0.heap.objs.size (fun j => decide (j ∈ kis)) c → c ≤ kis.length → (∀ b o, z0.heap.get? b = some o → h8.get? b = some o) → Q (.ref z0.heap.objs.size) { z0 with heap := h8, toks := tk }) :
    wpAny (model P w) A (call (.type "set") [.ref lx]) Q E z0 := by
  have hsize : its0.size = kis.length := by
    have q := IntsAre.length hints
    rw [Array.length_toList] at q
    exact q
  obtain ⟨c, tl, qmro⟩ := F.called_set.mro
  have qmade := F.called_set.made
  have qsub := F.called_set.sub
  refine wpAny_call (codeAny_of_tree ?_)
  show wpAny _ _ (callAny (.type "set") _) _ _ _
  refine wpAny_pure ⟨Code.quiet_builtin _ (by decide +kernel), codeAny_builtin F.entry_type_call ?_⟩
  rw [Around.under_plain (weight_type_call_type "set" [.ref lx] []) rfl]
  have q1 := F.called_set.notType
  have q2 := F.called_set.canCreate
  have qct := F.typeCall_set_1 (.ref lx)
  repeat (any_goals (first | assumption | wp_step))

  refine codeAny_mono (code_set_led1 (.ref lx) (E := E) (Q₁ := fun ob7 z1 => ob7 = .ref z0.heap.objs.size ∧ z1 = { z0 with heap := z0.heap.push { cls := .type "set", dict := none, data := .set #[] 0 (.fresh 0 0 (!w.params.followText "set-order")) } }) ⟨rfl, rfl⟩) fun r z1 hr7 => ?_
  cases r with
  | error e => exact hr7
  | ok fl7 =>
    cases fl7 with
    | ret ob7 =>
      obtain ⟨rfl, rfl⟩ := hr7
      have qS : (z0.heap.push { cls := .type "set", dict := none, data := .set #[] 0 (.fresh 0 0 (!w.params.followText "set-order")) }).get? z0.heap.objs.size = some { cls := .type "set", dict := none, data := .set #[] 0 (.fresh 0 0 (!w.params.followText "set-order")) } := Heap.get?_push_size _ rfl
      have qT : Shared.TypeIs { z0 with heap := z0.heap.push { cls := .type "set", dict := none, data := .set #[] 0 (.fresh 0 0 (!w.params.followText "set-order")) } } (.ref z0.heap.objs.size) "set" := ⟨_, qS, rfl⟩
      have qli := F.called_set.init.lookup
      have qbi := F.called_set.init.bind (.ref z0.heap.objs.size)
      repeat (any_goals (first | assumption | wp_step))

      refine codeAny_mono (codeAny_call_builtin (R := wants (fun r z7 => r = .none ∧ ∃ h8 tk c, z7 = { z0 with heap := h8, toks := tk } ∧ SetR w h8 z0.heap.objs.size (fun j => decide (j ∈ kis)) c ∧ c ≤ kis.length ∧
          (∀ b o, z0.heap.get? b = some o → h8.get? b = some o)) E) F.called_set.init.plain F.entry_set_init (check_set_init_1 qT ?_)) fun r8 z7 hr8 => ?_
      · obtain ⟨ol, qol, qcl, nl, qdl⟩ := hlst
        obtain ⟨c9, d9, t9, l9⟩ := ol
        simp only at qcl qdl
        subst qcl; subst qdl
        have qol9 : (z0.heap.push { cls := .type "set", dict := none, data := .set #[] 0 (.fresh 0 0 (!w.params.followText "set-order")) }).get? lx = some { cls := .type "list", dict := d9, data := .seq its0 nl, slots := l9 } := Heap.get?_push_of_some _ qol
        have qsls := F.sub_list_set
        have qslf := F.sub_list_frozenset
        have qne : (Value.type "list" == Value.type "dict") = false := by decide
        have ql1 : (z0.heap.push { cls := .type "set", dict := none, data := .set #[] 0 (.fresh 0 0 (!w.params.followText "set-order")) }).IsList lx its0 := ⟨_, qol9, rfl, nl, rfl⟩
        unfold Builtin.«set.__init__» noKeywords Builtin.Frozenset.updateFrom
        generalize qPI : pyIter = P9
        wp_walk
        subst qPI

        refine wpAny_pyIter_list ql1 ?_
        refine wpAny_bind (wpAny_runValue ?_)
        have qlS : lx < z0.heap.objs.size := Heap.lt_size qol
        have qh3 : A.in1.in1.in1.handled = none := by simp [hcalm]
        have qz1 : (z0.heap.push { cls := .type "set", dict := none, data := .set #[] 0 (.fresh 0 0 (!w.params.followText "set-order")) }).objs.size = z0.heap.objs.size + 1 := Heap.size_push ..
        have qneI : lx ≠ (z0.heap.push { cls := .type "set", dict := none, data := .set #[] 0 (.fresh 0 0 (!w.params.followText "set-order")) }).objs.size := by
          rw [Heap.size_push]; exact Nat.ne_of_lt (Nat.lt_succ_of_lt qlS)
        have qSf : z0.heap.objs.size ∉ [(z0.heap.push { cls := .type "set", dict := none, data := .set #[] 0 (.fresh 0 0 (!w.params.followText "set-order")) }).objs.size, lx] := by
          rw [Heap.size_push]; simp only [List.mem_cons, List.mem_singleton, List.not_mem_nil, or_false, not_or]
          exact ⟨Nat.ne_of_lt (Nat.lt_succ_self _), Nat.ne_of_gt qlS⟩
        have qval : ∀ (i : Nat) (v : Value), its0[i]? = some v → ∃ k t, kis[i]? = some k ∧ v = .int k t := fun i v hv => by
          have hi : i < kis.length := by rw [← hsize]; exact (Array.getElem?_eq_some_iff.mp hv).1
          obtain ⟨t, e⟩ := PyProof.Rows.IntsAre.int_at hints i v (by rw [Array.getElem?_toList]; exact hv)
          refine ⟨kis[i], t, List.getElem?_eq_getElem hi, ?_⟩
          rw [e, List.getD_eq_getElem?_getD, List.getElem?_eq_getElem hi] <;> rfl
        refine set_update_ints ((Walks.list qh3 _ lx qneI its0).toS) z0.heap.objs.size
          qSf kis hsize hroom qval (its0.size - 0) 0 _ (by omega) (Nat.zero_le _)
          ⟨⟨_, Heap.get?_push_size _ rfl, rfl, rfl⟩, (ql1.push _)⟩ ?cS0 ?cR
        case cS0 =>
          have qget : ((z0.heap.push { cls := .type "set", dict := none, data := .set #[] 0 (.fresh 0 0 (!w.params.followText "set-order")) }).push { cls := .type "list_iterator", data := .fields #[.ref lx, .int 0 0] }).get? z0.heap.objs.size
              = some { cls := .type "set", dict := none, data := .set #[] 0 (.fresh 0 0 (!w.params.followText "set-order")) } := Heap.get?_push_of_some _ qS
          exact ⟨0, Nat.le_refl 0, setR_new_at qget⟩
        case cR =>
          intro z8 n8 qm qc8 qS8
          obtain ⟨h8, g8, d8, tk8, os8⟩ := z8
          have eg8 : g8 = z0.gens := qm.gens
          have ed8 : d8 = z0.drawn := qm.drawn
          have eo8 : os8 = z0.os := qm.os
          subst eg8; subst ed8; subst eo8
          show wpAny _ _ _ _ _ _
          refine wpAny_pure ?_
          show wpAny _ _ (ret Value.none) _ _ _
          rw [hsize] at qc8
          refine wpAny_pure ⟨rfl, h8, tk8, n8, rfl, qS8, qc8, fun b o e => ?_⟩
          have qb0 : b < z0.heap.objs.size := Heap.lt_size e
          have qb1 : b ≠ z0.heap.objs.size := Nat.ne_of_lt qb0
          have qb2 : b ≠ (z0.heap.push { cls := .type "set", dict := none, data := .set #[] 0 (.fresh 0 0 (!w.params.followText "set-order")) }).objs.size := by
            rw [Heap.size_push]; exact Nat.ne_of_lt (Nat.lt_succ_of_lt qb0)
          exact qm.heap b o (by simp only [List.mem_cons, List.mem_singleton, List.not_mem_nil, or_false, not_or]; exact ⟨qb1, qb2⟩) (Heap.get?_push_of_some _ (Heap.get?_push_of_some _ e))

      · cases r8 with
        | error e => exact hr8
        | ok fl8 =>
          cases fl8 with
          | ret r =>
            obtain ⟨rfl, h8, tk, n8, rfl, qS8, qc8, hk8⟩ := hr8
            repeat (any_goals (first | assumption | wp_step))
            exact fin _ _ _ qS8 qc8 hk8
          | _ => exact hr8.elim
    | _ => exact hr7.elim

end

section
variable {X : Cx}
/-- sorted(set(xs)): the ints, each once, ascending -/
def tSortSet (K : PySem.W.Frag) (ta : TE) : TE := fun σ H Q => ta σ H fun x H1 => ∃ (l : Addr) (ks : List Int), x = V.ref l ∧ SqL K H1 l (ks.map V.int) ∧ ks.length < 64 ∧ ∀ (ms : List Int) (p : Addr), ms.Pairwise (· < ·) → (∀ k, k ∈ ms ↔ k ∈ ks) → H1 p = none → Q (.ref p) (upd H1 p (.lst (ms.map V.int)))
theorem pe_sortset {a : Expr} {ta : TE} {p p2 q pos : Pos} (hc : X.calm = true) (hg : Gl X "sorted") (hm : X.mg "sorted" = none) (hg2 : Gl X "set") (hm2 : X.mg "set" = none) (ha : PE X a ta)
    (na : starEach [a] X.env = (false, eval a X.env) :: starEach [] X.env) : PE X (.Call (.Name "sorted" p) [.Call (.Name "set" p2) [a] [] q] [] pos) (tSortSet X.K ta) := by
  refine ⟨fun pins s σ H Q I h => ?_⟩
  refine Call_ (ld_blt I hg hm PyProof.Rows.boot_sorted ?_)
  refine PyProof.Rows.callWith_builtin1 (PyProof.Rows.args_cons ?_ rfl) rfl rfl
  refine Call_ (ld_blt I hg2 hm2 PyProof.Rows.boot_set ?_)
  refine PyProof.Rows.callWith_type1 (PyProof.Rows.args_cons (thn (ha.run pins s σ H _ I h) fun v s1 ⟨x, H1, I1, r1, q1⟩ => PyProof.Rows.args_nil ?_) na) na rfl
  obtain ⟨l, ks, rfl, hq, h1, q1⟩ := q1
  cases r1
  obtain ⟨its, r, pl, hz⟩ := I1.list hq
  refine call_set_lstR ks (I1.ok.hd hc) pl.isList (by simpa using r.ints) (by unfold scanBound; omega) fun h8 tk c hS hcn hk => ?_
  refine PyProof.Rows.args_nil ?_
  have I2 : Inv X pins σ H1 { s1 with heap := h8, toks := tk } := I1.kept fun b o e => hk b o e
  have hS2 : SetR X.w ({ s1 with heap := h8, toks := tk } : Shared).heap s1.heap.objs.size (fun j => decide (j ∈ ks)) c := hS
  generalize ({ s1 with heap := h8, toks := tk } : Shared) = s2 at *
  refine sorted_set hS2 (I2.ok.hd hc) (by omega) fun z1 pn out cn ms k g o hp hgt hi hs hmm hl => ?_
  have hlen : (ms.map V.int).length ≤ sizeLine := by rw [List.length_map, hl, sizeLine_eq]; omega
  have hn : H1 pn = none := I2.hok.fresh hp
  have J : Inv X pins σ (upd H1 pn (.lst (ms.map V.int))) { s2 with heap := z1.heap, gens := z1.gens, drawn := z1.drawn, toks := z1.toks } :=
    I2.call (ch := []) (Un.laid k hp hn) (I2.hok.laid k hp ⟨hlen, out.toList, cn, vals_of_ints hi, hgt⟩) (by rw [g]; exact I2.bare) (fun _ z => nomatch z)
  have e : z1 = { s2 with heap := z1.heap, gens := z1.gens, drawn := z1.drawn, toks := z1.toks } := by
    cases z1
    cases s2
    cases o
    rfl
  rw [e]
  exact ⟨.ref pn, _, J, rfl, q1 ms pn hs (fun k => by rw [hmm k, decide_eq_true_eq]) hn⟩
end
/-! .. in the little machine -/
def insU (x : Int) : List Int → List Int
  | [] => [x]
  | y :: ys => if x < y then x :: y :: ys else if x = y then y :: ys else y :: insU x ys
/-- each once, ascending -/
def usort : List Int → List Int
  | [] => []
  | x :: xs => insU x (usort xs)
theorem insU_mem {x k : Int} : ∀ {l : List Int}, k ∈ insU x l ↔ k = x ∨ k ∈ l
  | [] => by simp [insU]
  | y :: ys => by
    unfold insU
    split
    · simp
    · split
      · rename_i e
        subst e
        simp
      · simp only [List.mem_cons, insU_mem (l := ys)]
        constructor
        · rintro (h | h | h)
          · exact .inr (.inl h)
          · exact .inl h
          · exact .inr (.inr h)
        · rintro (h | h | h)
          · exact .inr (.inl h)
          · exact .inl h
          · exact .inr (.inr h)
theorem usort_mem {k : Int} : ∀ {l : List Int}, k ∈ usort l ↔ k ∈ l
  | [] => by simp [usort]
  | x :: xs => by
    show k ∈ insU x (usort xs) ↔ _
    rw [insU_mem, usort_mem (l := xs), List.mem_cons]
theorem insU_sorted {x : Int} : ∀ {l : List Int}, l.Pairwise (· < ·) → (insU x l).Pairwise (· < ·)
  | [], _ => by simp [insU]
  | y :: ys, h => by
    obtain ⟨h1, h2⟩ := List.pairwise_cons.mp h
    unfold insU
    split
    · rename_i c
      refine List.pairwise_cons.mpr ⟨fun z hz => ?_, h⟩
      rcases List.mem_cons.mp hz with rfl | hz
      · exact c
      · have := h1 z hz; omega
    · split
      · exact h
      · rename_i c1 c2
        refine List.pairwise_cons.mpr ⟨fun z hz => ?_, insU_sorted h2⟩
        rcases insU_mem.mp hz with rfl | hz
        · omega
        · exact h1 z hz
theorem usort_sorted : ∀ {l : List Int}, (usort l).Pairwise (· < ·)
  | [] => .nil
  | x :: xs => insU_sorted (usort_sorted (l := xs))
theorem strict_unique : ∀ {a b : List Int}, a.Pairwise (· < ·) → b.Pairwise (· < ·) → (∀ k, k ∈ a ↔ k ∈ b) → a = b
  | [], [], _, _, _ => rfl
  | [], y :: ys, _, _, h => absurd ((h y).mpr List.mem_cons_self) (by simp)
  | x :: xs, [], _, _, h => absurd ((h x).mp List.mem_cons_self) (by simp)
  | x :: xs, y :: ys, ha, hb, h => by
    obtain ⟨a1, a2⟩ := List.pairwise_cons.mp ha
    obtain ⟨b1, b2⟩ := List.pairwise_cons.mp hb
    have e : x = y := by
      rcases List.mem_cons.mp ((h x).mp List.mem_cons_self) with e | q
      · exact e
      · rcases List.mem_cons.mp ((h y).mpr List.mem_cons_self) with e | r
        · exact e.symm
        · have := b1 x q; have := a1 y r; omega
    subst e
    rw [strict_unique a2 b2 fun k => ?_]
    constructor
    · intro hk
      rcases List.mem_cons.mp ((h k).mp (List.mem_cons_of_mem _ hk)) with e | q
      · have := a1 k hk; omega
      · exact q
    · intro hk
      rcases List.mem_cons.mp ((h k).mpr (List.mem_cons_of_mem _ hk)) with e | q
      · have := b1 k hk; omega
      · exact q
def sortSetD (d : D) : P D := fun hs => match listOf hs d with
  | some xs => match intsD xs with
    | some ks => if ks.length < 64 then newL ((usort ks).map .int) hs else none
    | none => none
  | none => none
def sortSetM (fa : Ev → M D) : Ev → M D := fun e => M.bind (fa e) fun d => M.lift (sortSetD d)
theorem rvs_ints {K : PySem.W.Frag} {mg : Str → Option Value} {m : List Addr} {H : Hp} : ∀ {ks : List Int}, RVs K mg m H (ks.map .int) (ks.map V.int)
  | [] => RVs.nil_iff.mpr rfl
  | k :: ks => RVs.cons mk_int rvs_ints
section
variable {X : Cx} {W : WX}
theorem de_sortset {a : Expr} {fa : Ev → M D} {p p2 q pos : Pos} (hc : X.calm = true) (hg : Gl X "sorted") (hm : X.mg "sorted" = none) (hg2 : Gl X "set") (hm2 : X.mg "set" = none) (ha : DE X W a fa)
    (na : starEach [a] X.env = (false, eval a X.env) :: starEach [] X.env) : DE X W (.Call (.Name "sorted" p) [.Call (.Name "set" p2) [a] [] q] [] pos) (sortSetM fa) := by
  refine (pe_sortset hc hg hm hg2 hm2 ha na).imp fun σ H Q ⟨m, ev, hs, rs, hr, q⟩ => ⟨m, ev, hs, rs, hr, q.bind.mono fun d m1 hs1 H1 e1 hr1 q1 v rv => ?_⟩
  obtain ⟨y, hs2, e, k⟩ := q1.lift
  unfold sortSetD at e
  split at e
  · rename_i xs el
    split at e
    · rename_i ks ek
      split at e
      · rename_i hz
        cases e
        obtain ⟨l, ws, rfl, h1, h2⟩ := list_of hr1 rv el
        obtain rfl := intsD_rv ek h2
        refine ⟨l, ks, rfl, h1, hz, fun ms p hs hm hp => ?_⟩
        have e : ms = usort ks := strict_unique hs usort_sorted fun k => by rw [hm k, usort_mem]
        rw [e]
        exact Bk.lst (Q := Q) (fun m' H' v e hr r => k m' H' e hr v r) hr1 rvs_ints hp
      · cases e
    · cases e
  · cases e
end
end DL
set_option Elab.async false
set_option linter.all false
set_option maxRecDepth 100000
set_option maxHeartbeats 4000000
namespace DL
open PySem PySem.Spec PySem.Calls PyProof.Rows PySem.W PySem.HandSPX

/-! ## an error class of the package: its __init__ says super().__init__(text), and keeps at most one thing -/
def storesOf : Option Str → List (Pos × Pos × Pos × Pos) → List Stmt
  | some f, [(a, b, c, d)] => [.Assign [.Attribute (.Name "self" a) f b] (.Name f c) d]
  | _, _ => []
def moreB (fld : Option Str) (v : Value) : List (Str × Value) := match fld with | some f => [(f, v)] | none => []
def moreA (fld : Option Str) (v : Value) : List Value := match fld with | some _ => [v] | none => []
structure ErrC (P : Program) (K : Frag) (C : Addr) (fld : Option Str) : Prop where
  T : L2.OexC K C
  kn : ∃ (fI cc cda : Addr) (qual txt file : Str) (tf : Tok) (params : Arguments) (body : List Stmt) (scope : Scope) (dV kV doc pm ct oc ccl cl : Value) (an od cdd cld : Option Addr) (osl ccs csl : Array (Option Value)) (vs : Array Value) (cd : ClassData) (ar : Arg)
      (p0 p1 p2 p3 p4 p5 : Pos) (j : Nat) (ps : List (Pos × Pos × Pos × Pos)),
    findIn K (.ref C) "__init__" = some (some (.ref fI)) ∧ typeIn K (.ref fI) = some (.type "function") ∧
    K.lookup fI = some ⟨oc, od, .func (ksFn "__init__" qual params body scope dV kV doc pm an (.ref cda) ct cc), osl⟩ ∧ codeIn K (.ref cda) qual = true ∧
    K.lookup cc = some ⟨cl, cld, .cell (some (.ref C)), csl⟩ ∧ K.lookup cda = some ⟨ccl, cdd, .fields vs, ccs⟩ ∧ vs[2]? = some (.str file tf) ∧ ((P.main.file : Str) == file) = true ∧
    mroIn K C (.ref C) = some true ∧ ks_superIn K C C "__init__" = some (some (.builtin "ValueError.__init__")) ∧ subIn K (.ref C) (.type "ValueError") = some true ∧
    nsIn K mainGlobals "super" = some none ∧ nsIn K cStatics "thirdparty.any" = some none ∧
    body = .Expr (.Call (.Attribute (.Call (.Name "super" p0) [] [] p1) "__init__" p2) [.Constant (.str txt) j p3] [] p4) p5 :: storesOf fld ps ∧ (p2.endLine == p4.line) = true ∧ (fld.isSome = true → ps.length = 1) ∧
    (∀ s u v, BindsTo s (ksFn "__init__" qual params body scope dV kV doc pm an (.ref cda) ct cc) ⟨.ref u :: moreA fld v, []⟩ (("self", .ref u) :: moreB fld v)) ∧
    (params.posonlyargs ++ params.args).head? = some ar ∧ ar.arg = "self" ∧
    scope.names.lookup ("super" : Str) = some .globalImplicit ∧ scope.names.lookup ("__class__" : Str) = some .free ∧ scope.names.lookup ("self" : Str) = some .local ∧
    (∀ f, fld = some f → scope.names.lookup f = some .local ∧ f ≠ "self" ∧ (f == ("__debug__" : Str)) = false ∧ findIn K (.ref C) f = some none) ∧
    (∀ x ∈ scope.names, x.2 ≠ .cell) ∧ scope.isCoroutine = false ∧ scope.isGenerator = false ∧ scope.kind = .function ∧ (P.main.scope.names.lookup ("super" : Str)).isSome = false

/-- the end of the def, with or without a field -/
def InitEnd (R : Result → Shared → Prop) (h : Heap) (g : Array GenState) (d : Drawn) (os : OsState) (e C : Addr) (fld : Option Str) (v : Value) : Prop :=
  match fld with
  | none => ∀ h' t1 tk', (∀ b o, b ≠ e → h.get? b = some o → h'.get? b = some o) → h'.get? e = some (excO C t1) → R (.ok (.ret .none)) ⟨h', g, d, tk', os⟩
  | some f => ∀ h' t1 tk' dx, (∀ b o, b ≠ e → h.get? b = some o → h'.get? b = some o) → h.get? dx = none → e < dx → h'.get? e = some ({ cls := .ref C, dict := some dx, data := .fields #[.ref t1, .none, .none, .none, .bool false, .none] } : Obj) →
      h'.Ns1 dx (fun y => if y = f then some v else none) → R (.ok (.ret .none)) ⟨h', g, d, tk', os⟩
theorem callWith_mw {M : Model} {A : Around} {E : Value → Shared → Prop} {s : Shared} {pos p3 : Pos} {u x : Addr} {i : String} {env : Env} {txt : Str} {j : Nat} {Q : Value → Shared → Prop} (hu : s.heap.get? u = some (kxs_mw i x))
    (h : ∀ v tk, wpAny M A (call (.ref u) [v]) Q E { s with toks := tk }) :
    wpAny M A (callWith pos (.ref u) [] (backTo pos (starEach [.Constant (.str txt) j p3] env)) []) Q E s := by
  have he : starEach [.Constant (.str txt) j p3] env = (false, eval (.Constant (.str txt) j p3) env) :: starEach [] env := rfl
  rw [he]
  refine kxs_callWith (i := i) (x := x) rfl ?_
  refine evalArgs_plain ?_
  show wpAny M A (spliced (backTo pos (starEach [.Constant (.str txt) j p3] env))) _ _ _
  exact args_cons (Constant_str (args_nil ⟨hu, h _ _⟩))
theorem call_mw {P : Program} {w : World} {A : Around} {E : Value → Shared → Prop} {h : Heap} {g : Array GenState} {d : Drawn} {t : Nat} {os : OsState} {u e C t0 N : Addr} {nm q : Str} {bs bm : List Value} {sn : List Str} {sub : List Value} {ab : Bool} {col : Option Bool} {dd : Option Addr}
    {k0 k1 k2 k3 k5 : Option Value} {v : Value} {Q : Value → Shared → Prop} (hC : h.get? C = some (excClassObj nm q C N bs bm true sn sub ab col dd k0 k1 k2 k3 k5 "ValueError.__new__")) (he : h.get? e = some (excO C t0)) (hu : h.get? u = some (kxs_mw "ValueError.__init__" e))
    (hq : ∀ h' t1, (∀ b o, b ≠ e → h.get? b = some o → h'.get? b = some o) → h'.get? e = some (excO C t1) → Q .none ⟨h', g, d, t, os⟩) : wpAny (model P w) A (call (.ref u) [v]) Q E ⟨h, g, d, t, os⟩ := by
  refine wpAny_call (codeAny_of_tree ?_)
  show wpAny _ A.in1 (callAny (.ref u) ⟨[v], []⟩) _ _ _
  simp only [callAny]
  refine wpAny_bind (wpAny_load hu ?_)
  simp only [kxs_mw, show (Value.type "method-wrapper" == Value.type "method" || Value.type "method-wrapper" == Value.type "builtin_function_or_method" || Value.type "method-wrapper" == Value.type "method-wrapper") = true by decide, if_true]
  refine KFB.if_so (by decide) ?_
  refine wpAny_bind (check_bound_init F.excBase_ValueError.toExcCallFacts hC he rfl ?_)
  refine wpAny_bind (wpAny_pure (wpAny_pure ?_))
  refine ⟨plainId_quiet F.excBase_ValueError.init.plain _, codeAny_builtin F.excBase_ValueError.initEntry ?_⟩
  exact exc_init_tree (cls := .ref C) (t0 := t0) (dv := none) (c2 := .none) (c3 := .none) (b4 := .bool false) he (show 1 ≤ sizeLine by rw [sizeLine_eq]; decide) fun h' k e' t' => hq h' _ k e'
theorem eval_meth1 {o : Expr} {name : Str} {apos pos : Pos} {c : Const} {j : Nat} {p3 : Pos} {env : Env} (hline : (apos.endLine == pos.line) = true) :
    eval (.Call (.Attribute o name apos) [.Constant c j p3] [] pos) env = (do
      let ov ← attributeBase o name env (eval o env)
      standAt apos.atName
      let (f, first) ← holding [ov] (getMethod ov name (do return (← importBound o env).getD true))
      callWith pos f first (backTo pos (starEach [.Constant c j p3] env)) []) := by
  rw [arm_eval_Call]
  have hform : methodCallForm ([Expr.Constant c j p3].length + ([] : List Keyword).length) (backTo pos (starEach [.Constant c j p3] env)) (backToKw pos (keywordEach [] env)) = true := rfl
  have hpos : methodCallPos true o env apos pos = pure pos := by unfold methodCallPos; simp [hline]
  unfold methodCall
  rw [hform, hpos]
  rfl
theorem errC_init {P : Program} {w : World} {K : Frag} {C : Addr} {fld : Option Str} (F : ErrC P K C fld) : ∃ fI, findIn K (.ref C) "__init__" = some (some (.ref fI)) ∧ typeIn K (.ref fI) = some (.type "function") ∧
    ∀ {A : Around} {R : Result → Shared → Prop} {h : Heap} {g : Array GenState} {d : Drawn} {t : Nat} {os : OsState} {e t0 : Addr} {v : Value} {mg mb : Str → Option Value}, (∀ b o, K.lookup b = some o → b ≠ e ∧ h.get? b = some o) → h.get? e = some (excO C t0) → h.Ns mainGlobals mg → h.Ns builtinsNs mb →
      (∀ x : Str, x ≠ "__name__" → mb x = bootBuiltins x) → h.NoLimit → A.depth < recursionLimit → InitEnd R h g d os e C fld v →
      codeAny (model P w) A (.call (.ref fI) ⟨.ref e :: moreA fld v, []⟩) R ⟨h, g, d, t, os⟩ := by
  obtain ⟨fI, cc, cda, qual, txt, file, tf, params, body, scope, dV, kV, doc, pm, ct, oc, ccl, cl, an, od, cdd, cld, osl, ccs, csl, vs, cd, ar, p0, p1, p2, p3, p4, p5, j, ps, iC, tI, lk, hcd, lcc, lcd, hvs, hfile, hsub, hsup, hVE, hsn, hop, hbody, hline, hps, hb, hp, har, s1, s2, s3, s4, s5, s6, s7, s8, s9⟩ := F.kn
  refine ⟨fI, iC, tI, ?_⟩
  intro A R h g d t os e t0 v mg mb X0 he hg hbn hbl lim hroom hq
  have X : K.In h := fun b o z => (X0 b o z).2
  obtain ⟨nm, q, N, bs, bm, sn, sub, ab, col, dd, k0, k1, k2, k3, k5, hC, hbm⟩ := F.T.cls
  have hcl : clsIn K C = some { name := nm, bases := bs, mro := .ref C :: bm, ns := N, qualname := q, hasDict := true, slotNames := sn, subclasses := sub, abstract := ab, collection := col, hasDel := false } := by unfold clsIn; rw [hC] <;> rfl
  refine ks_codeAny_call_defAt (fd := ksFn "__init__" qual params body scope dV kV doc pm an (.ref cda) ct cc) (body := body) hroom (X _ _ lk) rfl lim (codeRec_of X hcd) rfl (hb _ e v) s5 ?hloc (fun h₁ hns hk₁ => ?_) s6 s7 s8
  case hloc =>
    intro x hx
    rcases List.mem_cons.mp hx with rfl | hx
    · exact s3
    · cases fld with
      | none => cases hx
      | some f =>
        rcases List.mem_cons.mp hx with rfl | hx
        · exact (s4 f rfl).1
        · cases hx
  have X1 : K.In h₁ := X.keeps hk₁
  have hself : ((("self" : Str), Value.ref e) :: moreB fld v).reverse.lookup ("self" : Str) = some (Value.ref e) := by
    cases fld with
    | none => rfl
    | some f =>
      have ne := (s4 f rfl).2.1
      have : ((("self" : Str)) == f) = false := by simpa using fun e => ne e.symm
      simp [moreB, List.lookup, this]
  subst hbody
  show PySem.wpAt _ _ (.func _ (ksEnv qual scope h.objs.size fI (.ref cda) cc)) (execs _ (ksEnv qual scope h.objs.size fI (.ref cda) cc)) _ _ _
  have hni : interactive (ksEnv qual scope h.objs.size fI (.ref cda) cc) = false := by
    unfold interactive
    show (scope.kind == .module && _) = false
    rw [s8]
    rfl
  refine ks_wpAt_execs_cons (ks_wpAt_Expr_any (ks_wpAt_MethodCall ?_ (eval_meth1 hline)) hni)
  obtain ⟨oD, hD1, hD2⟩ : ∃ oD, h₁.get? C = some oD ∧ oD.data = .cls { name := nm, bases := bs, mro := .ref C :: bm, ns := N, qualname := q, hasDict := true, slotNames := sn, subclasses := sub, abstract := ab, collection := col, hasDel := false } := ⟨_, X1 _ _ hC, rfl⟩
  refine ks_wpAt_super_base (env := ksEnv qual scope h.objs.size fI (.ref cda) cc) s1 s2 (by decide) rfl (X1 _ _ lk) rfl hp rfl (X1 _ _ lcd) rfl hvs hfile s9 ?_
  refine ks_loadName_global s8 s1 (loadGlobal_builtin (env := ksEnv qual scope h.objs.size fI (.ref cda) cc) (hg.keeps hk₁) ?hsup (hbn.keeps hk₁) ((hbl _ (by decide)).trans ?hboot) ⟨rfl, ?_⟩)
  case hsup => exact mg_none_of X hg hsn
  case hboot => kernel_rfl
  refine wpAny_loadName_free s8 s2 rfl ⟨_, X1 _ _ lcc, rfl⟩ ?_
  refine wpAny_loadName_local s8 (by rw [har]; exact s3) hns (by rw [har]; exact hself) ?_
  refine ks_wpAny_isType_cls hD1 hD2 ⟨rfl, ?_⟩
  have he1 := hk₁ _ _ he
  refine ks_wpAny_call_super hD1 hD2 he1 rfl (fun c e => by cases e) (looks_mroIn X1 hsub) (fun h2 e2 k2 => ?_)
  have X2 : K.In h2 := X1.keeps k2
  have he2 := k2 _ _ he1
  have TC : Looks (model P w) h2 (typeOf (.ref e)) (.ref C) := fun A Q E s k q => wpAny_typeOf_ref (k _ _ he2) q
  have hxC : e ≠ C := fun z => by
    subst z
    have y := X _ _ hC
    rw [he] at y
    cases y
  refine kxs_getMethod kxs_ValueError e2 (looks_opaque X2 hop) (l₀ := .ref C :: bm) (fun A Q E s k q => wpAny_bind ((looks_clsIn X2 hcl) A _ E s k (wpAny_pure q))) rfl X2 ?hal (TC.andThen (looks_subIn X2 hVE)) hxC (by decide) ?_
  case hal =>
    unfold ks_superIn at hsup
    rw [hcl] at hsup
    exact hsup
  refine callWith_mw (i := "ValueError.__init__") (x := e) (Heap.get?_push_at rfl rfl) (fun u tk => ?_)
  have kp : ∀ b o, h.get? b = some o → (h2.push (kxs_mw "ValueError.__init__" e)).get? b = some o := fun b o z => Heap.get?_push_of_some _ (k2 _ _ (hk₁ _ _ z))
  refine call_mw (kp _ _ (X _ _ hC)) (kp _ _ he) (Heap.get?_push_at rfl rfl) (fun h3 t3 k3 e3 => ?_)
  have kq : ∀ b o, b ≠ e → h.get? b = some o → h3.get? b = some o := fun b o n z => k3 b o n (kp _ _ z)
  cases fld with
  | none => exact wpAt_of_wpAny (wpAny_execs_nil (hq _ _ _ kq e3))
  | some f =>
    obtain ⟨f1, f2, f3, f4⟩ := s4 f rfl
    match ps, hps rfl with
    | [(pa, pb, pc, pd)], _ =>
      have X3 : K.In h3 := fun b o z => kq b o (X0 b o z).1 (X0 b o z).2
      obtain ⟨oL, es, ep, hoL, rL⟩ := hns
      have nL : h.objs.size ≠ e := Nat.ne_of_gt (Heap.lt_size he)
      have ns3 : h3.Ns h.objs.size (fun x => ((("self" : Str), Value.ref e) :: moreB (some f) v).reverse.lookup x) := ⟨oL, es, ep, k3 _ _ nL (Heap.get?_push_of_some _ (k2 _ _ hoL)), rL⟩
      have hf : ((("self" : Str), Value.ref e) :: moreB (some f) v).reverse.lookup f = some v := by
        have : (f == f) = true := by simp
        simp [moreB, List.lookup, this]
      refine ks_wpAt_execs_cons (ks_wpAt_Assign_Attr (wpAt_of_wpAny (wpAny_Name (wpAny_loadName_local s8 f1 ns3 hf ?_) f3)) rfl)
      refine wpAny_Name (wpAny_loadName_local s8 s3 ns3 hself ?_) (by decide)
      refine set_plain X3 (ox := excO C t3) (od := none) ⟨e3, rfl, rfl, trivial⟩ F.T.sa ?_
      refine exc_osa X3 e3 hcl (show refsVE (.ref C :: bm) = true from hbm) rfl f4 (fun h4 tk4 dx k4 dn dne hx hn => ?_)
      refine wpAt_of_wpAny (wpAny_execs_nil (hq h4 t3 tk4 dx (fun b o n z => k4 b o n (kq b o n z)) ?_ (Nat.lt_of_lt_of_le (Heap.lt_size e3) dn) hx hn))
      cases z : h.get? dx with
      | none => rfl
      | some o => exact absurd (Heap.lt_size (kq _ _ dne z)) (Nat.not_lt.mpr dn)

end DL
namespace DL
open PySem PySem.Spec PyProof.Rows L2
section
variable {X : Cx} {C : Addr} {x f : Str} {e : Expr} {te : TE} {p pos : Pos}
theorem err_raises {P : Program} {fld : Option Str} (F : ErrC P X.K C fld) : Raises X (.ref C) := raises_own F.T.exC F.T.tyC
/-- C() -/
theorem call_err0 {pins : List (Addr × Obj)} {s : Shared} {σ : L2.St} {H : Hp} {Q : XK} (F : ErrC X.prog X.K C none) (hr : Room 1 X.A) (I : Inv X pins σ H s) (h : Q (.ref C) none H) : wpAny (model X.prog X.w) X.A (call (.ref C) []) (MkP X pins σ Q) X.xe s := by
  obtain ⟨nm, q, N, bs, bm, sn, sub, ab, col, dd, k0, k1, k2, k3, k5, hC, hbm⟩ := F.T.cls
  obtain ⟨fI, iC, tI, run⟩ := errC_init (w := X.w) F
  obtain ⟨hp, g, dr, tk, os⟩ := s
  obtain ⟨mb, hb1, hb2⟩ := I.mod.blt
  have kk : ∀ b o, hp.get? b = some o → ((hp.push (PySem.W.kdv_tup [])).push (PySem.HandSPX.excO C hp.objs.size)).get? b = some o := fun b o e => Heap.get?_push_of_some _ (Heap.get?_push_of_some _ e)
  have hget : ((hp.push (PySem.W.kdv_tup [])).push (PySem.HandSPX.excO C hp.objs.size)).get? (hp.objs.size + 1) = some (PySem.HandSPX.excO C hp.objs.size) := by heap_get
  have ne : ∀ {b : Addr} {o : Obj}, hp.get? b = some o → b ≠ hp.objs.size + 1 := fun z => Nat.ne_of_lt (Nat.lt_succ_of_lt (Heap.lt_size z))
  have hsz : hp.objs.size ≤ hp.objs.size + 1 := Nat.le_succ _
  refine wpAny_call (PySem.HandSPX.call_own PySem.F.excBase_ValueError (fun Y => PySem.HandSPX.refsVE_contains Y bm hbm) (I.kIn _ _ hC) (PySem.W.looks_findIn I.kIn iC) (fun self => PySem.W.bind_fn I.kIn self tI) (Nat.zero_le _)
    (run (mg := X.mg) (mb := mb) (v := .none) (fun b o z => ⟨ne (I.kIn _ _ z), kk _ _ (I.kIn _ _ z)⟩) hget ((I.mod.glob.keeps I.bk).keeps kk) ((hb1.keeps I.bk).keeps kk) hb2 ((I.mod.nolimit.keeps I.bk).keeps kk) (hr.make C [] []).depth fun h' t1 tk' k he => ?_))
  have hnone : hp.get? (hp.objs.size + 1) = none := by
    cases z : hp.get? (hp.objs.size + 1) with
    | none => rfl
    | some o => exact absurd (Heap.lt_size z) (Nat.not_lt.mpr hsz)
  refine ⟨rfl, ?_⟩
  show MkP X pins σ Q (.ref (hp.objs.size + 1)) ⟨h', g, dr, tk', os⟩
  exact ⟨_, _, _, ⟨hp, g, dr, tk, os⟩, H, .ref C, none, rfl, I, fun b o z => k b o (ne z) (kk _ _ z), hnone, he, ⟨rfl, rfl⟩, rfl, rfl, I.hok.fresh hsz, rfl, I.bare, err_raises F, h⟩
/-- C(v) -/
theorem call_err1 {pins : List (Addr × Obj)} {s : Shared} {σ : L2.St} {H : Hp} {Q : XK} {v : V} {u : Value} (F : ErrC X.prog X.K C (some f)) (hr : Room 1 X.A) (I : Inv X pins σ H s) (rv : RelV v u) (h : ∀ d, H d = none → Q (.ref C) (some d) (upd H d (.xd [(f, v)]))) :
    wpAny (model X.prog X.w) X.A (call (.ref C) [u]) (MkP X pins σ Q) X.xe s := by
  obtain ⟨nm, q, N, bs, bm, sn, sub, ab, col, dd, k0, k1, k2, k3, k5, hC, hbm⟩ := F.T.cls
  obtain ⟨fI, iC, tI, run⟩ := errC_init (w := X.w) F
  obtain ⟨hp, g, dr, tk, os⟩ := s
  obtain ⟨mb, hb1, hb2⟩ := I.mod.blt
  have kk : ∀ b o, hp.get? b = some o → ((hp.push (PySem.W.kdv_tup [u])).push (PySem.HandSPX.excO C hp.objs.size)).get? b = some o := fun b o e => Heap.get?_push_of_some _ (Heap.get?_push_of_some _ e)
  have hget : ((hp.push (PySem.W.kdv_tup [u])).push (PySem.HandSPX.excO C hp.objs.size)).get? (hp.objs.size + 1) = some (PySem.HandSPX.excO C hp.objs.size) := by heap_get
  have ne : ∀ {b : Addr} {o : Obj}, hp.get? b = some o → b ≠ hp.objs.size + 1 := fun z => Nat.ne_of_lt (Nat.lt_succ_of_lt (Heap.lt_size z))
  have hsz : hp.objs.size ≤ hp.objs.size + 1 := Nat.le_succ _
  refine wpAny_call (PySem.HandSPX.call_own PySem.F.excBase_ValueError (fun Y => PySem.HandSPX.refsVE_contains Y bm hbm) (I.kIn _ _ hC) (PySem.W.looks_findIn I.kIn iC) (fun self => PySem.W.bind_fn I.kIn self tI) (show 1 ≤ sizeLine by rw [sizeLine_eq]; decide)
    (run (mg := X.mg) (mb := mb) (v := u) (fun b o z => ⟨ne (I.kIn _ _ z), kk _ _ (I.kIn _ _ z)⟩) hget ((I.mod.glob.keeps I.bk).keeps kk) ((hb1.keeps I.bk).keeps kk) hb2 ((I.mod.nolimit.keeps I.bk).keeps kk) (hr.make C [u] []).depth fun h' t1 tk' dx k dn dlt he hns => ?_))
  have hnone : hp.get? (hp.objs.size + 1) = none := by
    cases z : hp.get? (hp.objs.size + 1) with
    | none => rfl
    | some o => exact absurd (Heap.lt_size z) (Nat.not_lt.mpr hsz)
  refine ⟨rfl, ?_⟩
  show MkP X pins σ Q (.ref (hp.objs.size + 1)) ⟨h', g, dr, tk', os⟩
  have dsz : hp.objs.size ≤ dx := Nat.le_trans hsz (Nat.le_of_lt dlt)
  have hda : dx ≠ hp.objs.size + 1 := Nat.ne_of_gt dlt
  have hd : H dx = none := I.hok.fresh dsz
  obtain ⟨G, g1', g2'⟩ := restrict h' fun b => decide (b ≠ hp.objs.size + 1)
  have gk : ∀ b, b ≠ hp.objs.size + 1 → G.get? b = h'.get? b := fun b hb => g1' b (decide_eq_true hb)
  have ge : G.get? (hp.objs.size + 1) = none := g2' _ (by simp)
  have kG : ∀ b o, hp.get? b = some o → G.get? b = some o := fun b o z => (gk b (ne z)).trans (k b o (ne z) (kk _ _ z))
  have hok : ObjOk X.prog X.w H G dx (.xd [(f, v)]) := ⟨_, hns.at fun o y => (gk dx hda).trans y, relO_put (fs := []) rv fun g => True.intro⟩
  have J : Inv X pins σ (upd H dx (.xd [(f, v)])) ⟨G, g, dr, tk, os⟩ := I.laid (t' := tk) (a := dx) (o := .xd [(f, v)]) (h' := G) kG dsz hok
  refine ⟨_, _, _, ⟨G, g, dr, tk, os⟩, _, .ref C, some dx, rfl, J, fun b o z => ?_, ge, he, ⟨rfl, rfl⟩, rfl, rfl, ?_, rfl, I.bare, err_raises F, h dx hd⟩
  · by_cases hba : b = hp.objs.size + 1
    · rw [hba, ge] at z
      cases z
    · exact (gk b hba).symm.trans z
  · rw [upd_ne (Ne.symm hda)]
    exact I.hok.fresh hsz
theorem pmk_err0 (F : ErrC X.prog X.K C none) (hr : Room 1 X.A) (hg : Gl X x) (hm : X.mg x = some (.ref C)) (hdb : (x == ("__debug__" : Str)) = false) : PMk X (.Call (.Name x p) [] [] pos) (fun _ H Q => Q (.ref C) none H) := by
  intro pins s σ H Q I h
  refine wpAny_Call_Name_kw (ld_glob I hg hm ?_ hdb)
  exact PySem.W.callWith_K0 I.kIn F.T.kC (call_err0 F hr I h)
theorem pmk_err1 (F : ErrC X.prog X.K C (some f)) (hr : Room 1 X.A) (he : PE X e te) (hg : Gl X x) (hm : X.mg x = some (.ref C)) (hdb : (x == ("__debug__" : Str)) = false) (hs : starEach [e] X.env = (false, eval e X.env) :: starEach [] X.env) :
    PMk X (.Call (.Name x p) [e] [] pos) (fun σ H Q => te σ H fun v H1 => ∀ d, H1 d = none → Q (.ref C) (some d) (upd H1 d (.xd [(f, v)]))) := by
  intro pins s σ H Q I h
  refine wpAny_Call_Name_kw (ld_glob I hg hm ?_ hdb)
  refine PySem.W.callWith_K (h₀ := X.base) I.ok.mod.kin F.T.kC ?_ hs rfl
  refine args_cons (thn (he.run pins s σ H _ I h) fun u s1 ⟨v, H1, I1, r1, q1⟩ => args_nil ⟨I1.kIn, ?_⟩) hs
  exact call_err1 F hr I1 r1 q1
end
end DL
set_option Elab.async false
set_option linter.all false
set_option maxRecDepth 100000
set_option maxHeartbeats 4000000
namespace DL
open PySem PySem.Spec PyProof.Rows L2

/-! ## try: several clauses, each with or without a name -/
def putE (o : Option Nat) (a : Addr) (σ : L2.St) : L2.St := match o with
  | none => σ
  | some i => σ.set i (some (.ref a))
def dropE (o : Option Nat) (σ : L2.St) : L2.St := match o with
  | none => σ
  | some i => σ.set i none
def goneD (o : Option Nat) (D : Ends) : Ends := { nx := fun σ H => D.nx (dropE o σ) H, rt := D.rt, bk := fun σ H => D.bk (dropE o σ) H, ct := fun σ H => D.ct (dropE o σ) H }
abbrev Cl := Value × Option Nat × (Addr → Value → Option Addr → TS)
def wAll (K : PySem.W.Frag) (Wout : WX) (D : Ends) : List Cl → WX
  | [] => Wout
  | (c, o, ts) :: r => fun cls d σ H => ∃ b, PySem.W.exmOne K cls c = some b ∧ (b = true → ∀ a, H a = none → ts a cls d (goneD o D) (putE o a σ) H) ∧ (b = false → wAll K Wout D r cls d σ H)
inductive HdsA (X : Cx) : List ExceptHandler → List Cl → Prop
  | nil : HdsA X [] []
  | plain {x : Str} {c : Value} {ts : Addr → Value → Option Addr → TS} {b₀ : Stmt} {suite : List Stmt} {np pos' : Pos} {hds : List ExceptHandler} {l : List Cl} (hc : Names X x c)
      (hsu : ∀ (a : Addr) (oe : Obj) (cls : Value) (d : Option Addr) (pn : List (Addr × Obj)), Zc cls d oe → (∃ vs, oe.data = .fields vs) → PSs (X.suite a ((a, oe) :: pn)) (b₀ :: suite) (ts a cls d)) (r : HdsA X hds l) :
      HdsA X (.ExceptHandler (some (.Name x np)) none (b₀ :: suite) pos' :: hds) ((c, none, ts) :: l)
  | named {x n : Str} {i : Nat} {c : Value} {ts : Addr → Value → Option Addr → TS} {b₀ : Stmt} {suite : List Stmt} {np pos' : Pos} {hds : List ExceptHandler} {l : List Cl} (hc : Names X x c) (hi : X.N[i]? = some n) (hln : X.env.kindOf n = some .local)
      (hsu : ∀ (a : Addr) (oe : Obj) (cls : Value) (d : Option Addr) (pn : List (Addr × Obj)), Zc cls d oe → (∃ vs, oe.data = .fields vs) → PSs (X.suite a ((a, oe) :: pn)) (b₀ :: suite) (ts a cls d)) (r : HdsA X hds l) :
      HdsA X (.ExceptHandler (some (.Name x np)) (some n) (b₀ :: suite) pos' :: hds) ((c, some i, ts) :: l)
section
variable {X : Cx} {body : List Stmt} {h₀ : ExceptHandler} {hds : List ExceptHandler} {l : List Cl} {pos : Pos} {tb : WX → TS} {Wout : WX}
theorem ps_try_all (hs : X.stack = X.env :: X.outer) (hf : X.env.frame = some X.env.locals) (hN : X.N.Nodup) (tk : Takes X Wout)
    (hb : ∀ (W : WX) (pn : List (Addr × Obj)) (xe : Value → Shared → Prop), Takes (X.tr pn xe) W → PassesOwn (model X.prog X.w) X.A X.env xe → PSs (X.tr pn xe) body (tb W))
    (hh : HdsA X (h₀ :: hds) l) : PS X (.Try body (h₀ :: hds) [] [] pos) (fun D σ H => tb (wAll X.K Wout D l) D σ H) := by
  refine ⟨fun pins s σ H D I h => ?_⟩
  have ok := I.ok
  have hfr : X.A.frames = some (X.env :: X.outer) := by rw [ok.frames, hs]
  refine wpAny_Try_except ?_
  refine wpAny_mono ((hb (wAll X.K Wout D l) (X.pn ++ pins) (fun e s₁ => wpAny (model X.prog X.w) X.A (noteFrame e X.env) (fun _ s₂ => wpAny (model X.prog X.w) X.A (setFlight e none) (fun _ s₃ =>
    wpAny (model X.prog X.w) X.A (handleBy e X.env (h₀ :: hds)) (SP X pins D) X.xe s₃) X.xe s₂) X.xe s₁) (fun u s' xx => ?_) PassesOwn.looking).run [] s σ H D (I.toTry _) h) (fun f s1 hsp => ?_) (fun e s1 he => he)
  · -- an error of the body
    obtain ⟨a, B, sI, pins', σ', H', cls, d, rfl, J', nb, up, sky, na, os, ag, w⟩ := xx
    have J : Inv X pins σ' H' sI := J'.ofTry ok
    have sky' : Sky B (X.env :: X.outer) a (Zc cls d) X.env.locals s'.heap := by rw [← hs]; exact sky
    show wpAny (model X.prog X.w) X.A (noteFrame (.ref a) X.env) _ _ _
    refine Sky.land Zc.steady hfr hf sky' fun h3 fl3 up3 => ?_
    have J3 : Inv X pins σ' H' { s' with heap := h3 } := J.landed nb fl3.1 (up.trans up3) os ag
    obtain ⟨oe3, vs3, he3, hz3, hd3⟩ := fl3.there
    have notFr : ∀ {h : Heap} {o : Obj} {vs : Array Value}, h.FunFrames B (X.env :: X.outer) → h.get? a = some o → o.data = .fields vs → a ∉ frs (X.env :: X.outer) := fun {h o vs} ff e dd hm => by
      obtain ⟨_, o', e', hnf⟩ := ff.mem hm
      rw [e] at e'; cases e'
      exact hnf _ dd
    have nfr := notFr fl3.2.2.1 he3 hd3
    have nL : a ≠ X.env.locals := fun z => nfr (List.mem_filterMap.mpr ⟨X.env, List.mem_cons_self, by rw [hf, z]⟩)
    have nF : a ∉ X.fs := fun hm => by
      obtain ⟨e, he, q⟩ := List.mem_filterMap.mp hm
      exact nfr (List.mem_filterMap.mpr ⟨e, List.mem_cons_of_mem _ he, q⟩)
    have S3 := J3.suite he3 hd3 na nL nF
    have LT : PySem.W.Looks (model X.prog X.w) h3 (typeOf (.ref a)) cls := fun A Q E s k q => wpAny_typeOf_ref (k _ _ he3) (by rw [hz3.1]; exact q)
    have test : ∀ {x : Str} {c : Value} {np : Pos} {Q : Value → Shared → Prop} {E : Value → Shared → Prop}, Names X x c → Q c { s' with heap := h3 } → wpAny (model X.prog X.w) (X.A.mark (some (.ref a))) (eval (.Name x np) X.env) Q E { s' with heap := h3 } := fun {x c np Q E} hc q => by
      obtain ⟨hg, hdbg, hm | ⟨hm, hv, hnn⟩⟩ := hc
      · exact ld_glob (X := X.suite a ((a, oe3) :: (X.pn ++ pins))) S3 hg hm q hdbg
      · exact ld_blt (X := X.suite a ((a, oe3) :: (X.pn ++ pins))) S3 hg hm hv q hnn hdbg
    have go : ∀ {hds' : List ExceptHandler} {l' : List Cl}, HdsA X hds' l' → wAll X.K Wout D l' cls d σ' H' →
        wpAny (model X.prog X.w) X.A (handleBy (.ref a) X.env hds') (SP X pins D) X.xe { s' with heap := h3 } := by
      intro hds' l' hk
      induction hk with
      | nil =>
        intro w
        refine wpAny_handleBy_nil ?_
        obtain ⟨k1, k2, k3, oe, vs, T, oT, ts', he, hz, hd, h1, hr⟩ := id fl3
        unfold PySem.passOn
        refine wpAny_bind (wpAny_field he hd h1 ?_)
        rw [if_neg (show ¬ ((Value.ref T == Value.none) = true) from by simp)]
        have fin : wpAny (model X.prog X.w) X.A (setFlight (.ref a) X.env.frame) (fun _ s4 => wpAny (model X.prog X.w) X.A (throw (.ref a) : Sem Flow) (SP X pins D) X.xe s4) X.xe { s' with heap := h3 } := by
          rw [hf]
          refine HandSPX.setFlight_upZ fl3 fun h4 hh4 up4 => wpAny_throw (tk _ _ ?_)
          exact ⟨a, B, sI, pins, σ', H', cls, d, rfl, J, nb, (up.trans up3).trans up4, .inr (.inr (by rw [hs]; exact hh4)), na, os, ag, w⟩
        first
          | exact wpAny_bind (wpAny_pure (wpAny_bind fin))
          | exact wpAny_bind fin
      | @plain x c ts b₀ suite np pos' hds2 l2 hc hsu r ih =>
        intro w
        obtain ⟨b, hb1, hyes, hno⟩ := w
        refine wpAny_handleBy_cons (codeAny_handlers_test ?_) (by intro q; cases q)
        refine test hc ((PySem.W.exm_one (M := model X.prog X.w) (J3.kIn) LT hb1).here ?_)
        cases b with
        | true =>
          refine codeAny_handlers_suite ?_
          refine HandSPX.lands_againZ fl3 fun h4 fl4 up4 => ?_
          have J4 : Inv X pins σ' H' { s' with heap := h4 } := J.landed nb fl4.1 ((up.trans up3).trans up4) os ag
          obtain ⟨oe4, vs4, he4, hz4, hd4⟩ := fl4.there
          have S4 := J4.suite he4 hd4 na nL nF
          refine wpAny_mono ((hsu a oe4 cls d (X.pn ++ pins) hz4 ⟨_, hd4⟩).run [] _ _ H' _ S4 (hyes rfl a na)) (fun f s6 hsp => ?_) (fun _ _ z => False.elim z)
          cases f with
          | next => obtain ⟨σ6, H6, S6, q6⟩ := hsp; exact ⟨_, _, S6.unsuite ok, q6⟩
          | brk => obtain ⟨σ6, H6, S6, q6⟩ := hsp; exact ⟨_, _, S6.unsuite ok, q6⟩
          | cont => obtain ⟨σ6, H6, S6, q6⟩ := hsp; exact ⟨_, _, S6.unsuite ok, q6⟩
          | ret u => obtain ⟨v6, σ6, H6, S6, r6, q6⟩ := hsp; exact ⟨_, _, _, S6.unsuite ok, r6, q6⟩
        | false =>
          show wpAny _ X.A (handleBy (.ref a) X.env hds2) _ _ _
          exact ih (hno rfl)
      | @named x n i c ts b₀ suite np pos' hds2 l2 hc hi hln hsu r ih =>
        intro w
        obtain ⟨b, hb1, hyes, hno⟩ := w
        refine wpAny_handleBy_cons (codeAny_handlers_test ?_) (by intro q; cases q)
        refine test hc ((PySem.W.exm_one (M := model X.prog X.w) (J3.kIn) LT hb1).here ?_)
        cases b with
        | true =>
          refine codeAny_handlers_suite_as ?_
          refine HandSPX.lands_againZ fl3 fun h4 fl4 up4 => ?_
          have J4 : Inv X pins σ' H' { s' with heap := h4 } := J.landed nb fl4.1 ((up.trans up3).trans up4) os ag
          obtain ⟨oe4, vs4, he4, hz4, hd4⟩ := fl4.there
          have S4 := J4.suite he4 hd4 na nL nF
          have hloc : Loc X.env.scope n := .inl hln
          refine store_ok (X := X.suite a ((a, oe4) :: (X.pn ++ pins))) (v := .ref a) S4 hN hi hloc rfl (fun s5 S5 => ?_) (.inr hln)
          refine wpAny_mono ((hsu a oe4 cls d (X.pn ++ pins) hz4 ⟨_, hd4⟩).run [] s5 _ H' _ S5 (hyes rfl a na)) (fun f s6 hsp => ?_) (fun _ _ z => False.elim z)
          have end_ : ∀ {σ6 : L2.St} {H6 : Hp} {Q : Shared → Prop}, Inv (X.suite a ((a, oe4) :: (X.pn ++ pins))) [] σ6 H6 s6 → (∀ s7, Inv X pins (σ6.set i none) H6 s7 → Q s7) →
              wpAny (model X.prog X.w) X.A (do bindName X.env n .none; unbindBehindTheSuite X.env n pos') (fun _ s7 => Q s7) X.xe s6 := fun {σ6 H6 Q} S6 hq => gone_ok (S6.unsuite ok) hN hi hln hq
          cases f with
          | next => obtain ⟨σ6, H6, S6, q6⟩ := hsp; exact end_ S6 fun s7 J7 => ⟨_, _, J7, q6⟩
          | brk => obtain ⟨σ6, H6, S6, q6⟩ := hsp; exact end_ S6 fun s7 J7 => ⟨_, _, J7, q6⟩
          | cont => obtain ⟨σ6, H6, S6, q6⟩ := hsp; exact end_ S6 fun s7 J7 => ⟨_, _, J7, q6⟩
          | ret u => obtain ⟨v6, σ6, H6, S6, r6, q6⟩ := hsp; exact end_ S6 fun s7 J7 => ⟨_, _, _, J7, r6, q6⟩
        | false =>
          show wpAny _ X.A (handleBy (.ref a) X.env hds2) _ _ _
          exact ih (hno rfl)
    exact go hh w
  · cases f with
    | next => obtain ⟨σ', H', J', q⟩ := hsp; exact wpAny_execs_nil ⟨σ', H', J'.ofTry ok, q⟩
    | brk => obtain ⟨σ', H', J', q⟩ := hsp; exact ⟨σ', H', J'.ofTry ok, q⟩
    | cont => obtain ⟨σ', H', J', q⟩ := hsp; exact ⟨σ', H', J'.ofTry ok, q⟩
    | ret u => obtain ⟨v, σ', H', J', r, q⟩ := hsp; exact ⟨v, σ', H', J'.ofTry ok, r, q⟩
end
end DL
set_option Elab.async false
set_option linter.all false
set_option maxRecDepth 100000
set_option maxHeartbeats 4000000
namespace DL
open PySem PySem.Spec PySem.Calls PyProof.Rows PySem.W

/-! ## isinstance of a handled error, with a dict or none -/
section
variable {prog : Program} {w : World} {A : Around} {E : Value → Shared → Prop} {s : Shared} {K : Frag} {x D : Addr} {ox : Obj} {od : Option Obj}
theorem findObj_data {C : Addr} {name : Str} {a g : Value} (hc : (clsIn K C).isSome = true) (ha : findIn K (.ref C) name = some (some a)) (hg : specialIn K a "__get__" = some (some g)) (ht : takesIn K a = some true) : findObj K C od name = some (.bind g a) := by
  obtain ⟨cd, hc⟩ := Option.isSome_iff_exists.mp hc
  unfold findObj
  rw [hc, Option.bind_some, ha, Option.bind_some]
  simp [hg, ht]
theorem err_class {Q : Option Value → Shared → Prop} (T : L2.ExcC K D) (X : K.In s.heap) (I : InstAt s.heap x ox D od) (h : Q (some (.ref D)) { s with toks := s.toks + 1 }) : wpAny (model prog w) A (getAttr? (.ref x) "__class__") Q E s := by
  have hf : findObj K D od "__class__" = some (.bind (.builtin "getset_descriptor.__get__") (.builtin "object.__class__")) := findObj_data (by obtain ⟨cd, hc, _⟩ := any_some T.hd; rw [hc]; rfl) T.ha T.hn T.ht
  obtain ⟨hp, g, d, t, os⟩ := s
  have L0 := I.type (M := model prog w)
  have L1 := looks_findIn (M := model prog w) X T.hg
  have L2' := looks_findIn (M := model prog w) X T.hk
  have L3 := looks_find (M := model prog w) X I hf
  have sub : Looks (model prog w) hp (isInstance (.ref x) (.type "BaseException")) true := L0.andThen (looks_subIn X T.hs)
  have hx2 : (Value.builtin "BaseException.__getattribute__" == Value.builtin "object.__getattribute__") = false := by decide +kernel
  have hx1 : (onTheHeap (Value.ref D) && Value.builtin "BaseException.__getattribute__" == Value.builtin "object.__getattribute__") = false := by rw [hx2]; rfl
  unfold getAttr? getAttrBy? getAttrBy
  refine wpAny_bind (wpAny_mkText (wpAny_bind (wpAny_attempt (wpAny_holding (wpAny_bind (L0.at (wpAny_bind (L1.at ?_))))))))
  show wpAny _ _ (if (onTheHeap (Value.ref D) && Value.builtin "BaseException.__getattribute__" == Value.builtin "object.__getattribute__") = true then _ else _) _ _ _
  rw [hx1, if_neg Bool.false_ne_true]
  unfold getAttrByItsOwn hookBefore
  refine wpAny_bind ?_
  rw [if_pos (show onTheHeap (Value.ref D) = true from rfl)]
  refine L2'.at ?_
  refine wpAny_bind (wpAny_attempt (wpAny_holding ?_))
  unfold callGetattribute
  rw [show (false && onTheHeap (Value.builtin "BaseException.__getattribute__")) = false from rfl, if_neg Bool.false_ne_true]
  unfold boundAndCalled
  rw [PySem.F.excAttr_ValueError.ga.bind (.ref x)]
  refine wpAny_bind (wpAny_pure ?_)
  show wpAny _ _ (call (.builtin "BaseException.__getattribute__") [.ref x, .str "__class__" t]) _ _ _
  refine wpAny_call (codeAny_call_builtin PySem.F.excAttr_ValueError.ga.plain PySem.F.entry_bexc_ga ?_)
  refine @check_slot (model prog w) _ _ ⟨hp, g, d, t + 1, os⟩ "BaseException.__getattribute__" "BaseException" "__getattribute__" (.ref x) [.str "__class__" t] [] _ (by decide +kernel) (by decide +kernel) sub (PySem.F.args_bexc_ga (.ref x) (.str "__class__" t)) ?_
  unfold Builtin.«object.__getattribute__»
  refine wpAny_bind (wpAny_of_eq (a := ((Value.ref x : Value), [Value.str "__class__" t])) (by first | rfl | (simp only [slotArgs]; rfl)) ?_)
  refine wpAny_bind (wpAny_pure (wpAny_bind (L0.at (wpAny_bind (L3.at ?_)))))
  show wpAny _ _ (holding [Value.builtin "object.__class__"] (call (.builtin "getset_descriptor.__get__") [.builtin "object.__class__", .ref x, .ref D]) >>= ret) _ _ _
  refine wpAny_bind (wpAny_holding (wpAny_call (class_get (s := ⟨hp, g, d, t + 1, os⟩) (ox := ox) (od := od) X I T.hm ?_)))
  refine wpAny_pure ?_
  show wpAny _ _ (handedOut (.ref D)) _ _ _
  rw [handedOut_of (v := .ref D) rfl]
  first
    | exact wpAny_pure (wpAny_pure h)
    | exact wpAny_pure h
    | exact wpAny_pure (wpAny_bind (wpAny_pure (wpAny_pure h)))
theorem kitx_err (T : L2.ExcC K D) : KitX K (.ref x) (.ref D) (fun h => ∃ ox od, InstAt h x ox D od) where
  ty := fun _ _ _ ⟨_, _, I⟩ => I.type
  it := fun _ _ X _ => by
    obtain ⟨cdD, hcD, _⟩ := any_some T.hd
    unfold clsIn at hcD
    split at hcD
    · rename_i c' d' cd' sl' ho
      intro A' Q' E' s' k q
      unfold isType loadHead
      exact wpAny_bind (wpAny_loadPart (k _ _ (X _ _ ho)) (wpAny_pure q))
    · cases hcD
  ne := fun h tp dd its n sl X htp => by
    obtain ⟨cdD, hcD, _⟩ := any_some T.hd
    refine Bool.eq_false_iff.mpr fun q => ?_
    have e : D = tp := Value.ref.inj (beq_iff_eq.mp q)
    subst e
    unfold clsIn at hcD
    split at hcD
    · rename_i c' d' cd' sl' ho
      have z := (X _ _ ho).symm.trans htp
      cases z
    · cases hcD
  ca := fun X ⟨_, _, I⟩ k => err_class T X I k
end
end DL
set_option Elab.async false
set_option linter.all false
set_option maxRecDepth 100000
set_option maxHeartbeats 4000000
namespace DL
open PySem PySem.Spec PyProof.Rows L2

/-! ## dicts that are written: {k: v, ..}, the keys ints and texts that are written, no two alike -/
def keyE : Expr → Option Key
  | .Constant (.int i) _ _ => some (.inl i)
  | .Constant (.str x) _ _ => some (.inr x)
  | _ => none
def keysE : List (Option Expr) → Option (List Key)
  | [] => some []
  | some e :: r => match keyE e, keysE r with
    | some k, some ks => some (k :: ks)
    | _, _ => none
  | none :: _ => none
def dispK (κs : List Key) (n : Nat) (xs : List D) : M D := fun h => if xs.length = κs.length then (match h[n]? with
  | some (.dct []) => some (.ok (.loc n), h.set n (.dct ((κs.map kD).zip xs)))
  | _ => none) else none
def dispM (κs : List Key) (fs : Ev → M (List D)) : Ev → M D := fun e hs => M.bind (fs e) (dispK κs hs.length) (hs ++ [.dct []])
def dispAny (ks : List (Option Expr)) (n : Nat) (fs : Ev → M (List D)) : Ev → M D := match keysE ks with
  | some κs => if ks.length = n ∧ κs.Nodup ∧ ks.length ≤ 15 ∧ ks.length ≠ 0 then dispM κs fs else fun _ => M.stuck
  | none => fun _ => M.stuck
def consAll (fs : List (Ev → M D)) : Ev → M (List D) := fs.foldr consM (fun _ => M.pure [])
def pairV (κs : List Key) (us : List V) : List (V × V) := (κs.zip us).map fun p => (kV p.1, p.2)
section
variable {X : Cx} {W : WX} {pos : Pos}
theorem keyE_ok {e : Expr} {k : Key} (h : keyE e = some k) : ∃ tk : TE, PE X e tk ∧ ∀ σ H Q, Q (kV k) H → tk σ H Q := by
  unfold keyE at h
  split at h
  · cases h; exact ⟨_, pe_int, fun _ _ _ q => q⟩
  · cases h; exact ⟨_, pe_str, fun _ _ _ q => q⟩
  · cases h
theorem pairs_ok {g : Expr → Ev → M D} : ∀ {ks : List (Option Expr)} {es : List Expr} {κs : List Key}, keysE ks = some κs → ks.length = es.length → (∀ e ∈ es, DE X W e (g e)) →
    ∃ trs, PPs X pos ks es trs ∧ ∀ σ H Q, tA X.K X.mg W (consAll (es.map g)) σ H (fun us H' => Q (pairV κs us) H') → tPairs trs σ H Q
  | [], [], κs, h, _, _ => by
    cases h
    exact ⟨[], pps_nil, fun σ H Q ⟨m, ev, hs, rs, hr, q⟩ => q.pure hr _ (RVs.nil_iff.mpr rfl)⟩
  | none :: _, _ :: _, _, h, _, _ => by cases h
  | some k :: ks, e :: es, κs, h, hl, each => by
    simp only [keysE] at h
    cases e1 : keyE k with
    | none => rw [e1] at h; cases h
    | some κ =>
      cases e2 : keysE ks with
      | none => rw [e1, e2] at h; cases h
      | some κs' =>
        rw [e1, e2] at h
        cases h
        obtain ⟨tk, hk, qk⟩ := keyE_ok (X := X) e1
        obtain ⟨trs, hp, ih⟩ := pairs_ok (ks := ks) (es := es) e2 (by simpa using hl) fun e he => each e (List.mem_cons_of_mem _ he)
        refine ⟨_, pps_cons hk (each e List.mem_cons_self) hp, fun σ H Q ⟨m, ev, hs, rs, hr, q⟩ => qk _ _ _ ?_⟩
        exact ⟨m, ev, hs, rs, hr, q.bind.mono fun d m1 hs1 H1 e1 hr1 q1 v rv => ih σ H1 _ ⟨m1, ev, hs1, rs.mono e1, hr1, q1.bind.mono fun ds m2 hs2 H2 e2 hr2 q2 vs rvs => q2.pure hr2 _ (RVs.cons (rv.mono e2) rvs)⟩⟩
theorem rks_zip {K : PySem.W.Frag} {mg : Str → Option Value} {m : List Addr} {H : Hp} : ∀ {κs : List Key} {xs : List D} {vs : List V}, xs.length = κs.length → RVs K mg m H xs vs → RKs K mg m H ((κs.map kD).zip xs) (κs.zip vs)
  | [], [], vs, _, h => by rw [RVs.nil_iff] at h; subst h; rfl
  | κ :: κs, x :: xs, vs, hl, h => by
    obtain ⟨v, r, rfl, h1, h2⟩ := RVs.cons_iff.mp h
    exact ⟨κ, v, _, rfl, rfl, h1, rks_zip (by simpa using hl) h2⟩
theorem merge_self : ∀ {more kvs : List (Key × V)}, (kvs.map (·.1) ++ more.map (·.1)).Nodup → mergeK kvs more = kvs ++ more
  | [], kvs, _ => by simp [mergeK]
  | p :: more, kvs, h => by
    have e : valV kvs p.1 = none := by
      cases q : valV kvs p.1 with
      | none => rfl
      | some v =>
        exfalso
        have : (kvs.any fun kv => decide (kv.1 = p.1)) = true := by rw [valV_any, q]; rfl
        obtain ⟨z, hz, hd⟩ := List.any_eq_true.mp this
        have hd := of_decide_eq_true hd
        rw [List.nodup_append] at h
        exact h.2.2 z.1 (List.mem_map.mpr ⟨z, hz, rfl⟩) p.1 (by simp) hd
    show mergeK (putK kvs p.1 p.2) more = _
    rw [putK_new _ e, merge_self (by simpa using h)]
    simp
theorem dispAny_ok {ks : List (Option Expr)} {es : List Expr} {g : Expr → Ev → M D} (each : ∀ e ∈ es, DE X W e (g e)) : DE X W (.Dict ks es pos) (dispAny ks es.length (consAll (es.map g))) := by
  unfold dispAny
  split
  · rename_i κs hk
    split
    · rename_i hc
      obtain ⟨hl, hnd, h15, h0⟩ := hc
      obtain ⟨trs, hp, ih⟩ := pairs_ok (X := X) (W := W) (pos := pos) hk hl each
      have hall : ∀ {ks : List (Option Expr)} {κs : List Key}, keysE ks = some κs → ks.all (·.isSome) = true ∧ κs.length = ks.length := by
        intro ks
        induction ks with
        | nil => intro κs h; cases h; exact ⟨rfl, rfl⟩
        | cons k ks ih =>
          intro κs h
          cases k with
          | none => cases h
          | some k =>
            simp only [keysE] at h
            cases e1 : keyE k with
            | none => rw [e1] at h; cases h
            | some κ =>
              cases e2 : keysE ks with
              | none => rw [e1, e2] at h; cases h
              | some κs' =>
                rw [e1, e2] at h
                cases h
                obtain ⟨q1, q2⟩ := ih e2
                exact ⟨by simp [q1], by simp [q2]⟩
      obtain ⟨ha, hkl⟩ := hall hk
      refine (pe_disp hp ha hl (fun e => h0 (by rw [e]; rfl)) h15).imp fun σ H Q ⟨m, ev, hs, rs, hr, q⟩ p hn => ?_
      have x := Ext.push (K := X.K) (o := .dK []) hn (m := m)
      have hr2 := hr.push (o := .dct []) hn ⟨[], upd_same, rfl⟩
      have hmp : (m ++ [p])[hs.length]? = some p := by rw [← hr.len]; simp
      refine ih _ _ _ ⟨m ++ [p], ev, hs ++ [.dct []], rs.mono x, hr2, (AfterM.from x q).bind.mono fun ds m2 hs2 H2 e2 hr2 q2 vs rvs => ?_⟩
      unfold dispK at q2
      split at q2
      · rename_i hdl
        have hm2 := e2.wk.loc hmp
        cases ec : hs2[hs.length]? with
        | none => rw [ec] at q2; exact q2.elim
        | some o =>
          rw [ec] at q2
          cases o with
          | dct kvs =>
            cases kvs with
            | nil =>
              obtain ⟨ks0, h1, h2⟩ := hr2.ob _ _ _ ec hm2
              simp only [RKs] at h2
              subst h2
              have pl : (∀ xs, HO.dK [] ≠ .tup xs) ∧ (∀ v w, HO.dK [] ≠ .frz v w) ∧ ∀ fs, HO.dK [] ≠ .xd fs := ⟨(fun _ h => nomatch h), (fun _ _ h => nomatch h), (fun _ h => nomatch h)⟩
              have x2 := Ext.write (K := X.K) (u := .dK (mergeK [] (κs.zip vs))) hm2 h1 pl
              have hvl : vs.length = κs.length := by rw [← rvs.length]; exact hdl
              have em : mergeK [] (κs.zip vs) = κs.zip vs := by
                have : (κs.zip vs).map (·.1) = κs := by rw [List.map_fst_zip]; omega
                have := merge_self (kvs := []) (more := κs.zip vs) (by rw [this]; simpa using hnd)
                simpa using this
              refine ⟨h1, κs.zip vs, rfl, by simp [hvl, hkl]; exact h15, ?_⟩
              refine q2 m2 _ x2 (hr2.write hm2 h1 pl ⟨_, upd_same, ?_⟩) _ (by simp only [RV]; exact ⟨p, rfl, hm2⟩)
              rw [em]
              exact (rks_zip hdl rvs).monoW (by rw [← em]; exact x2.wk)
            | cons _ _ => exact q2.elim
          | _ => exact q2.elim
      · exact q2.elim
    · exact de_no
  · exact de_no
end
end DL
set_option Elab.async false
set_option linter.all false
set_option maxRecDepth 100000
set_option maxHeartbeats 4000000
namespace DL
open PySem PySem.Spec PyProof.Rows L2

/-! ## the little machine -/
inductive GI where
  | val (d : D) | fn (n : Nat) (f : List D → M D) | bi | err (fld : Option Str) | base
structure SC where
  N : List Str
  sc : Scope
  fnc : Str → Bool
  G : Str → Option GI
  /-- within an except suite: the error that is handled -/
  hot : Option Tk := none
  /-- within a comprehension's block -/
  inb : Bool := false
def SC.cool (C : SC) : Bool := C.hot.isNone
def findIx : List Str → Str → Option Nat
  | [], _ => none
  | y :: ys, x => if y = x then some 0 else (findIx ys x).map (· + 1)
theorem findIx_get : ∀ {N : List Str} {x : Str} {i : Nat}, findIx N x = some i → N[i]? = some x
  | [], _, _, h => by cases h
  | y :: ys, x, i, h => by
    unfold findIx at h
    split at h
    · rename_i e; cases h; subst e; rfl
    · obtain ⟨j, e, rfl⟩ := Option.map_eq_some_iff.mp h
      show ys[j]? = some x
      exact findIx_get e
def constM (c : Const) : Ev → M D := fun _ => match c with
  | .none => M.pure .non
  | .bool b => M.pure (.bl b)
  | .int i => M.pure (.int i)
  | .str x => M.pure (.str x)
  | _ => M.stuck
def plainName (x : Str) : Bool := !(x == ("__debug__" : Str)) && !(x == ("__classdict__" : Str)) && !(x == ("__name__" : Str))
def tyNames : List (Str × String) := [("int", "int"), ("bool", "bool"), ("str", "str"), ("list", "list"), ("tuple", "tuple"), ("dict", "dict"), ("ValueError", "ValueError"), ("Exception", "Exception")]
def nameM (C : SC) (x : Str) : Ev → M D := if plainName x = true then
    (match C.sc.names.lookup x with
    | some .local | some .cell | some .free => (match findIx C.N x with
      | some i => varD i
      | none => fun _ => M.stuck)
    | some .globalImplicit => (match C.G x with
      | some (.val d) => fun _ => M.pure d
      | some .bi => (match tyNames.lookup x with
        | some n => fun _ => M.pure (.ty n)
        | none => fun _ => M.stuck)
      | some (.err _) => fun _ => M.pure (.glo x)
      | some .base => fun _ => M.pure (.glo x)
      | _ => fun _ => M.stuck)
    | _ => fun _ => M.stuck)
  else fun _ => M.stuck
def isGlobal (C : SC) (x : Str) : Bool := plainName x && (match C.sc.names.lookup x with
  | some .globalImplicit => true
  | _ => false)
def isBi (C : SC) (x : Str) : Bool := isGlobal C x && (match C.G x with
  | some .bi => true
  | _ => false)
def builtins : List (Str × (List D → P D)) := [("len", lenD), ("abs", absD), ("max", maxD), ("min", minD), ("all", allD), ("any", anyD), ("isinstance", isiD), ("int", intD), ("tuple", tupleD), ("list", listD), ("repr", reprD), ("str", strD)]
/-- built-ins that may be called while an error is handled -/
def hotBuiltins : List (Str × (List D → P D)) := [("len", lenD), ("abs", absD), ("isinstance", isiD), ("int", intD), ("tuple", tupleD), ("list", listD)]
def callD (C : SC) (x : Str) (k : Nat) (fs : Ev → M (List D)) : Ev → M D := if isGlobal C x = true then
    (match C.G x with
    | some (.fn n f) => if C.cool = true then callF n f fs else fun _ => M.stuck
    | some .bi => if 0 < k then (match (if C.cool = true then builtins else hotBuiltins).lookup x with
      | some f => callM f fs
      | none => fun _ => M.stuck) else fun _ => M.stuck
    | _ => fun _ => M.stuck)
  else fun _ => M.stuck
noncomputable def methods : List ((Str × Nat) × String × (D → List D → P D)) := [(("append", 1), "list", appendD), (("extend", 1), "list", extendD), (("pop", 0), "list", popD), (("pop", 1), "list", popAtD), (("index", 1), "list", indexD), (("join", 1), "str", joinD), (("split", 1), "str", splitD)]
noncomputable def methD (m : Str) (k : Nat) (fo : Ev → M D) (fs : Ev → M (List D)) : Ev → M D := match methods.lookup (m, k) with
  | some (T, f) => methM T f fo fs
  | none => fun _ => M.stuck
/-- a name that may be stored -/
def slotOf (C : SC) (x : Str) : Option Nat := match C.sc.names.lookup x with
  | some .local => findIx C.N x
  | some .cell => if C.fnc x = true then findIx C.N x else none
  | _ => none
def slotsOf (C : SC) : List Expr → Option (List Nat)
  | [] => some []
  | .Name x _ :: es => match slotOf C x, slotsOf C es with
    | some i, some is => some (i :: is)
    | _, _ => none
  | _ :: _ => none
def tgOf (C : SC) : Expr → Option Tg
  | .Name x _ => (slotOf C x).map .one
  | .Tuple es _ _ => if (plainArgs es && C.cool) = true then (slotsOf C es).map .many else none
  | _ => none
def ownOf (N : List Str) : List (Str × NameKind) → List (Str × Nat)
  | [] => []
  | (x, .local) :: r => (match findIx N x with
    | some i => (x, i) :: ownOf N r
    | none => ownOf N r)
  | (x, .cell) :: r => (match findIx N x with
    | some i => (x, i) :: ownOf N r
    | none => ownOf N r)
  | _ :: r => ownOf N r
def SC.blk (C : SC) (scope : Scope) : SC := { C with sc := relS scope C.sc, fnc := fun x => scope.names.lookup x == some .cell, inb := true }
def isTup : Expr → Bool
  | .Tuple .. => true
  | _ => false
def rngM (k : Nat) (fs : Ev → M (List D)) : Ev → M Src := fun e => M.bind (fs e) fun xs => if xs.length = k then rngSrc xs else M.stuck
def seqM (f : Ev → M D) : Ev → M Src := fun e => M.bind (f e) seqSrc
def noFold : Expr → Bool
  | .Set .. => false
  | _ => true
/-- what is walked: a range, a list, a tuple; pairs of enumerate and zip -/
def srcOf (x : Str) (k : Nat) (tup : Bool) (f : Ev → M D) (fs : Ev → M (List D)) : Ev → M Src :=
  if x = "range" then (if k = 1 ∨ k = 2 then rngM k fs else if k = 3 then fun e => M.bind (fs e) rngSrc3 else fun _ => M.stuck)
  else if x = "enumerate" then (if k = 1 ∧ tup = true then fun e => M.bind (fs e) enumSrc else fun _ => M.stuck)
  else if x = "zip" then (if k = 2 ∧ tup = true then fun e => M.bind (fs e) zipSrc else fun _ => M.stuck)
  else seqM f
def srcM (C : SC) (tg iter : Expr) (f : Ev → M D) (fs : Ev → M (List D)) : Ev → M Src := match iter with
  | .Call (.Name x _) args [] _ => if (isBi C x && plainArgs args) = true then srcOf x args.length (isTup tg) f fs else seqM f
  | _ => seqM f
/-- sorted(set(a)) -/
def isSortSet (C : SC) (x : Str) (args : List Expr) : Bool := C.cool && x == ("sorted" : Str) && isBi C "sorted" && (match args with
  | [.Call (.Name y _) [a] [] _] => y == ("set" : Str) && isBi C "set" && notStar a
  | _ => false)
/-- an error's class against one that is named -/
def hitE (C : SC) (c : Str) (y : Str) : Option Bool := match C.G y with
  | some (.err _) => some (decide (c = y))
  | some .base => some true
  | _ => none
def hitD (C : SC) (c : Str) : D → Option Bool
  | .glo y => hitE C c y
  | .ty n => if n = "ValueError" ∨ n = "Exception" then some true else none
  | _ => none
def hitsD (C : SC) (c : Str) : List D → Option Bool
  | [] => some false
  | d :: r => match hitD C c d, hitsD C c r with
    | some a, some b => some (a || b)
    | _, _ => none
def D.tup? : D → Option (List D)
  | .tup ds => some ds
  | _ => none
def hitA (C : SC) (c : Str) (d : D) : Option Bool := match d.tup? with
  | some ds => hitsD C c ds
  | none => hitD C c d
open Classical in
noncomputable def isiOf (C : SC) : List D → Option Bool
  | [.exv t c _, d] => if C.hot = some t then hitA C c d else none
  | _ => none
noncomputable def isiHot (C : SC) (fs : Ev → M (List D)) : Ev → M D := fun e => M.bind (fs e) fun xs => match isiOf C xs with
  | some b => M.pure (.bl b)
  | none => M.stuck
def isIsi (C : SC) (x : Str) (k : Nat) : Bool := !C.cool && x == ("isinstance" : Str) && isBi C "isinstance" && k == 2
open Classical in
/-- what an error keeps -/
noncomputable def attrM (C : SC) (f : Str) (fa : Ev → M D) : Ev → M D := fun e => M.bind (fa e) fun x => match x with
  | .exv t c as => if C.hot = some t then (match as.lookup f with
    | some l => M.pure l.d
    | none => M.stuck) else M.stuck
  | _ => M.stuck
noncomputable def attrAny (C : SC) (o : Expr) (f : Str) (fa : Ev → M D) : Ev → M D := if (!C.cool && plainBase o) = true then attrM C f fa else fun _ => M.stuck
noncomputable def callAny (C : SC) (f : Expr) (args : List Expr) (kws : List Keyword) (pos : Pos) (fo : Ev → M D) (fs : Ev → M (List D)) (fin : Ev → M D) : Ev → M D := match f, kws with
  | .Name x _, [] => if isSortSet C x args = true then sortSetM fin else if isIsi C x args.length = true then (if plainArgs args = true then isiHot C fs else fun _ => M.stuck) else if plainArgs args = true then callD C x args.length fs else fun _ => M.stuck
  | .Attribute o m apos, [] => if (plainArgs args && plainBase o && decide (args.length < 30) && (apos.endLine == pos.line)) = true then methD m args.length fo fs else fun _ => M.stuck
  | _, _ => fun _ => M.stuck
def subAny (i : Expr) (fa fi : Ev → M D) (fl fh : Ev → M (Option Int)) : Ev → M D := match i with
  | .Slice lo hi st _ => (match st with
    | none => sliceM fa fl fh
    | some (.UnaryOp .USub (.Constant (.int 1) _ _) _) => (match lo, hi with
      | none, none => revM fa
      | _, _ => fun _ => M.stuck)
    | _ => fun _ => M.stuck)
  | _ => op2 ixD fa fi
def cmpAny (ops : List CmpOp) (cs : List Expr) (fa fb fc : Ev → M D) : Ev → M D := match ops, cs with
  | [op], [b] => if plainMark op b = true then op2 (cmpD op) fa fb else fun _ => M.stuck
  | [op, op'], [b, c] => if (plainMark op b && plainMark op' c) = true then op3 (cmpD op) (cmpD op') fa fb fc else fun _ => M.stuck
  | _, _ => fun _ => M.stuck
noncomputable def compAny (C : SC) (gens : List Comprehension) (scope : Scope) (fi : Ev → M D) (fs : Ev → M (List D)) (ft : Ev → M Bool) (fi1 : Ev → M D) (fs1 : Ev → M (List D)) (ft1 : Ev → M Bool) (fe : Ev → M D) : Ev → M D := match gens with
  | [⟨tg, iter, _, 0⟩] => (match tgOf (C.blk scope) tg with
    | some t => if (C.cool && blkC C.N C.sc scope (ownOf C.N scope.names) && t.slots.all (fun i => decide (i ∈ (ownOf C.N scope.names).map (·.2))) && noFold iter) = true then
        compM ((ownOf C.N scope.names).map (·.2)) t (srcM C tg iter fi fs) ft fe else fun _ => M.stuck
    | none => fun _ => M.stuck)
  | [⟨tg, iter, _, 0⟩, ⟨tg1, iter1, _, 0⟩] => (match tgOf (C.blk scope) tg, tgOf (C.blk scope) tg1 with
    | some t, some t1 => if (C.cool && blkC C.N C.sc scope (ownOf C.N scope.names) && t.slots.all (fun i => decide (i ∈ (ownOf C.N scope.names).map (·.2))) && t1.slots.all (fun i => decide (i ∈ (ownOf C.N scope.names).map (·.2))) && noFold iter && noFold iter1) = true then
        comp2M ((ownOf C.N scope.names).map (·.2)) t1.slots t (srcM C tg iter fi fs) ft t1 (srcM (C.blk scope) tg1 iter1 fi1 fs1) ft1 fe else fun _ => M.stuck
    | _, _ => fun _ => M.stuck)
  | _ => fun _ => M.stuck
mutual
noncomputable def ev (C : SC) : Expr → Ev → M D
  | .Constant c _ _ => constM c
  | .Name x _ => nameM C x
  | .BoolOp op vs _ => (match op with
    | .And => evAnd C vs
    | .Or => evOr C vs)
  | .BinOp a op b _ => op2 (binD op) (ev C a) (ev C b)
  | .UnaryOp op a _ => (match op with
    | .Not => notV (ev C a)
    | .USub => negV (ev C a)
    | _ => fun _ => M.stuck)
  | .IfExp c a b _ => ifV (evT C c) (ev C a) (ev C b)
  | .Compare a ops cs _ => cmpAny ops cs (ev C a) (ev1 C cs) (ev2 C cs)
  | .Call f args kws pos => callAny C f args kws pos (evRecv C f) (evs C args) (evIn C args)
  | .Subscript a i _ => subAny i (ev C a) (ev C i) (evLo C i) (evHi C i)
  | .Tuple es _ _ => if plainArgs es = true then tupM (evs C es) else fun _ => M.stuck
  | .List es _ => if plainArgs es = true then lstM (evs C es) else fun _ => M.stuck
  | .Attribute o f _ => attrAny C o f (ev C o)
  | .Dict ks vs _ => (match ks, vs with
    | [], [] => nilDict
    | _, _ => dispAny ks vs.length (evs C vs))
  | .ListComp elt gens scope _ => compAny C gens scope (evGen C gens) (evGenA C gens) (evGenIf (C.blk scope) gens) (evGen1 (C.blk scope) gens) (evGenA1 (C.blk scope) gens) (evGenIf1 (C.blk scope) gens) (ev (C.blk scope) elt)
  | _ => fun _ => M.stuck
noncomputable def evs (C : SC) : List Expr → Ev → M (List D)
  | [] => fun _ => M.pure []
  | e :: es => consM (ev C e) (evs C es)
noncomputable def ev1 (C : SC) : List Expr → Ev → M D
  | [] => fun _ => M.stuck
  | e :: _ => ev C e
noncomputable def ev2 (C : SC) : List Expr → Ev → M D
  | [] => fun _ => M.stuck
  | _ :: es => ev1 C es
noncomputable def evRecv (C : SC) : Expr → Ev → M D
  | .Attribute o _ _ => ev C o
  | _ => fun _ => M.stuck
noncomputable def evArgs (C : SC) : Expr → Ev → M (List D)
  | .Call _ args _ _ => evs C args
  | _ => fun _ => M.stuck
noncomputable def evFst (C : SC) : Expr → Ev → M D
  | .Call _ args _ _ => ev1 C args
  | _ => fun _ => M.stuck
noncomputable def evIn (C : SC) : List Expr → Ev → M D
  | [] => fun _ => M.stuck
  | e :: _ => evFst C e
noncomputable def evLo (C : SC) : Expr → Ev → M (Option Int)
  | .Slice lo _ _ _ => evO C lo
  | _ => fun _ => M.stuck
noncomputable def evHi (C : SC) : Expr → Ev → M (Option Int)
  | .Slice _ hi _ _ => evO C hi
  | _ => fun _ => M.stuck
noncomputable def evGen (C : SC) : List Comprehension → Ev → M D
  | [] => fun _ => M.stuck
  | ⟨_, iter, _, _⟩ :: _ => ev C iter
noncomputable def evGen1 (C : SC) : List Comprehension → Ev → M D
  | [] => fun _ => M.stuck
  | _ :: gs => evGen C gs
noncomputable def evGenA1 (C : SC) : List Comprehension → Ev → M (List D)
  | [] => fun _ => M.stuck
  | _ :: gs => evGenA C gs
noncomputable def evGenIf1 (C : SC) : List Comprehension → Ev → M Bool
  | [] => fun _ => M.stuck
  | _ :: gs => evGenIf C gs
noncomputable def evGenA (C : SC) : List Comprehension → Ev → M (List D)
  | [] => fun _ => M.stuck
  | ⟨_, iter, _, _⟩ :: _ => evArgs C iter
noncomputable def evGenIf (C : SC) : List Comprehension → Ev → M Bool
  | [] => fun _ => M.stuck
  | ⟨_, _, ifs, _⟩ :: _ => evIfs C ifs
noncomputable def evAnd (C : SC) : List Expr → Ev → M D
  | [] => fun _ => M.stuck
  | e :: es => (match es with
    | [] => ev C e
    | _ :: _ => andV (ev C e) (evAnd C es))
noncomputable def evOr (C : SC) : List Expr → Ev → M D
  | [] => fun _ => M.stuck
  | e :: es => (match es with
    | [] => ev C e
    | _ :: _ => orV (ev C e) (evOr C es))
noncomputable def evO (C : SC) : Option Expr → Ev → M (Option Int)
  | none => fun _ => M.pure none
  | some e => fun v => M.bind (ev C e v) partD
noncomputable def evT (C : SC) : Expr → Ev → M Bool
  | .UnaryOp op a pos => (match op with
    | .Not => notM (evT C a)
    | .USub => truth (negV (ev C a))
    | _ => fun _ => M.stuck)
  | .BoolOp op vs _ => (match op with
    | .And => evTAnd C vs
    | .Or => evTOr C vs)
  | .Compare a ops cs _ => asTest (cmpAny ops cs (ev C a) (ev1 C cs) (ev2 C cs))
  | .Name x _ => truth (nameM C x)
  | .Call f args kws pos => truth (callAny C f args kws pos (evRecv C f) (evs C args) (evIn C args))
  | .Subscript a i _ => truth (subAny i (ev C a) (ev C i) (evLo C i) (evHi C i))
  | .Constant c _ _ => truth (constM c)
  | _ => fun _ => M.stuck
noncomputable def evTAnd (C : SC) : List Expr → Ev → M Bool
  | [] => fun _ => M.stuck
  | e :: es => (match es with
    | [] => evT C e
    | _ :: _ => andM (evT C e) (evTAnd C es))
noncomputable def evTOr (C : SC) : List Expr → Ev → M Bool
  | [] => fun _ => M.stuck
  | e :: es => (match es with
    | [] => evT C e
    | _ :: _ => orM (evT C e) (evTOr C es))
noncomputable def evIfs (C : SC) : List Expr → Ev → M Bool
  | [] => fun _ => M.pure true
  | e :: es => (match es with
    | [] => evT C e
    | _ :: _ => fun _ => M.stuck)
end
end DL
set_option Elab.async false
set_option linter.all false
set_option maxRecDepth 100000
set_option maxHeartbeats 4000000
namespace DL
open PySem PySem.Spec PyProof.Rows L2

/-! ## the little machine is right: expressions -/
def GOk (X : Cx) (x : Str) : GI → Prop
  | .val d => ∃ u v, X.mg x = some u ∧ RelV v u ∧ ∀ m H, RV X.K X.mg m H d v
  | .fn n f => ∃ k g fd ps, FnG X.prog X.w X.K X.mg X.base (L2.CX X.prog X.w) k g fd ps (spD X.K X.mg n f) ∧ (X.calm = true → Room k X.A) ∧ X.mg x = some (.ref g) ∧ PySem.W.keepIn X.K (.ref g) = true ∧ Binds X.K fd ps []
  | .bi => X.mg x = none
  | .err fld => (X.calm = true → Room 1 X.A) ∧ ∃ E, X.mg x = some (.ref E) ∧ ErrC X.prog X.K E fld ∧ ErrM X.K X.mg x E
  | .base => x = "SilentError" ∧ ∃ E, X.mg x = some (.ref E)
structure XOk (C : SC) (X : Cx) (W : WX) : Prop where
  N : X.N = C.N
  sc : X.env.scope = C.sc
  nd : X.N.Nodup
  calm : C.cool = true → X.calm = true
  st : C.inb = false → X.stack = X.env :: X.outer ∧ X.env.frame = some X.env.locals
  hot : ∀ t, C.hot = some t → ∃ oe : Obj, (t.a, oe) ∈ X.pn ∧ Zc t.cls t.d oe ∧ ∃ vs, oe.data = .fields vs
  po : PassesOwn (model X.prog X.w) X.A X.env X.xe
  tk : Takes X W
  u : X.A.units + 65 < cLine
  gd : X.A.guards = some []
  kd : X.env.scope.kind = .function
  fn : ∀ x, C.fnc x = true → X.fn x = true
  gl : ∀ x g, C.G x = some g → GOk X x g
theorem XOk.blk {C : SC} {X : Cx} {W : WX} (h : XOk C X W) (hcl : C.cool = true) {scope : Scope} (hk : scope.kind = .function) (s : Shared) (H : Hp) (Cc : Addr) (cl : List (Str × Addr)) (fp : List Addr) : XOk (C.blk scope) (X.blk s H scope (compEnvC scope cl Cc X.env) fp) WF where
  N := h.N
  sc := by show relS scope X.env.scope = relS scope C.sc; rw [h.sc]
  nd := h.nd
  calm := fun _ => h.calm hcl
  st := fun e => by cases (show true = false from e)
  hot := fun t e => by
    have e' : C.hot = some t := e
    unfold SC.cool at hcl
    rw [e'] at hcl
    cases hcl
  po := PassesOwn.never
  tk := takes_none5
  u := h.u
  gd := h.gd
  kd := hk
  fn := fun _ q => q
  gl := fun x g e => by
    have q := h.gl x g e
    cases g with
    | val d => exact q
    | fn n f => exact q
    | bi => exact q
    | err => exact q
    | base => exact q
def BiOk (X : Cx) (x : Str) (f : List D → P D) : Prop := (∃ id, bootBuiltins x = some (.builtin id) ∧ CallR X (.builtin id) (rPn X.K X.mg f)) ∨ ∃ T, bootBuiltins x = some (.type T) ∧ CallR X (.type T) (rPn X.K X.mg f)
section
variable {X : Cx}
theorem bi_all (hc : X.calm = true) (gd : X.A.guards = some []) (hu : X.A.units + 65 < cLine) : ∀ p ∈ builtins, BiOk X p.1 p.2 := by
  intro p hp
  simp only [builtins, List.mem_cons, List.not_mem_nil, or_false] at hp
  rcases hp with rfl | rfl | rfl | rfl | rfl | rfl | rfl | rfl | rfl | rfl | rfl | rfl
  · exact .inl ⟨_, by decide +kernel, lenD_ok⟩
  · exact .inl ⟨_, by decide +kernel, absD_ok⟩
  · exact .inl ⟨_, by decide +kernel, maxD_ok hc⟩
  · exact .inl ⟨_, by decide +kernel, minD_ok hc⟩
  · exact .inl ⟨_, by decide +kernel, allD_ok hc⟩
  · exact .inl ⟨_, by decide +kernel, anyD_ok hc⟩
  · exact .inl ⟨_, by decide +kernel, isiD_ok⟩
  · exact .inr ⟨_, by decide +kernel, intD_ok⟩
  · exact .inr ⟨_, by decide +kernel, tupleD_ok⟩
  · exact .inr ⟨_, by decide +kernel, listD_ok⟩
  · exact .inl ⟨_, by decide +kernel, reprD_ok gd hu⟩
  · exact .inr ⟨_, by decide +kernel, strD_ok⟩
theorem hot_all : ∀ p ∈ hotBuiltins, BiOk X p.1 p.2 := by
  intro p hp
  simp only [hotBuiltins, List.mem_cons, List.not_mem_nil, or_false] at hp
  rcases hp with rfl | rfl | rfl | rfl | rfl | rfl
  · exact .inl ⟨_, by decide +kernel, lenD_ok⟩
  · exact .inl ⟨_, by decide +kernel, absD_ok⟩
  · exact .inl ⟨_, by decide +kernel, isiD_ok⟩
  · exact .inr ⟨_, by decide +kernel, intD_ok⟩
  · exact .inr ⟨_, by decide +kernel, tupleD_ok⟩
  · exact .inr ⟨_, by decide +kernel, listD_ok⟩
theorem ty_all : ∀ p ∈ tyNames, bootBuiltins p.1 = some (.type p.2) := by
  intro p hp
  simp only [tyNames, List.mem_cons, List.not_mem_nil, or_false] at hp
  rcases hp with rfl | rfl | rfl | rfl | rfl | rfl | rfl | rfl <;> decide +kernel
def MtOk (X : Cx) (name : Str) (T : String) (f : D → List D → P D) : Prop := ∃ id, PlainAttrs T ∧ Slot T name id ∧ typeOf (.builtin id) = pure (.type "method_descriptor") ∧ MtR X id (rMt X.K X.mg f)
theorem mt_all (hu : X.A.units + 65 < cLine) : ∀ p ∈ methods, MtOk X p.1.1 p.2.1 p.2.2 := by
  intro p hp
  simp only [methods, List.mem_cons, List.not_mem_nil, or_false] at hp
  rcases hp with rfl | rfl | rfl | rfl | rfl | rfl | rfl
  · exact ⟨_, PySem.F.plainAttrs_list, PySem.F.slot_list_append, PySem.F.type_list_append, appendD_ok⟩
  · exact ⟨_, PySem.F.plainAttrs_list, PySem.F.slot_list_extend, PySem.F.type_list_extend, extendD_ok⟩
  · exact ⟨_, PySem.F.plainAttrs_list, PySem.F.slot_list_pop, PySem.F.type_list_pop, popD_ok⟩
  · exact ⟨_, PySem.F.plainAttrs_list, PySem.F.slot_list_pop, PySem.F.type_list_pop, popAtD_ok⟩
  · exact ⟨_, PySem.F.plainAttrs_list, PySem.F.slot_list_index, PySem.F.type_list_index, indexD_ok hu⟩
  · exact ⟨_, PySem.F.plainAttrs_str, PySem.F.slot_str_join, PySem.F.type_str_join, joinD_ok⟩
  · exact ⟨_, PySem.F.plainAttrs_str, PySem.F.slot_str_split, PySem.F.type_str_split, splitD_ok⟩
end
theorem lk_mem {α β : Type} [BEq α] [LawfulBEq α] {a : α} {b : β} : ∀ {l : List (α × β)}, l.lookup a = some b → (a, b) ∈ l
  | [], h => by cases h
  | (x, y) :: l, h => by
    rw [List.lookup_cons] at h
    split at h
    · rename_i e
      cases h
      rw [eq_of_beq e]
      exact List.mem_cons_self
    · exact List.mem_cons_of_mem _ (lk_mem h)
theorem plain_ne {x : Str} (h : plainName x = true) : (x == ("__debug__" : Str)) = false ∧ (x == ("__classdict__" : Str)) = false ∧ x ≠ "__name__" := by
  unfold plainName at h
  simp only [Bool.and_eq_true, Bool.not_eq_true'] at h
  exact ⟨h.1.1, h.1.2, by simpa using h.2⟩
section
variable {C : SC} {X : Cx} {W : WX}
theorem nameM_ok (h : XOk C X W) {x : Str} {pos : Pos} : DE X W (.Name x pos) (nameM C x) := by
  unfold nameM
  split
  · rename_i hp
    obtain ⟨h1, h2, h3⟩ := plain_ne hp
    have vis : ∀ {i : Nat}, findIx C.N x = some i → Vis X.env.scope x → DE X W (.Name x pos) (varD i) := fun {i} e v => de_var (pe_var (by rw [h.N]; exact findIx_get e) v h1 h2)
    split
    · rename_i e
      split
      · rename_i i ei; exact vis ei (by rw [h.sc]; exact .inl e)
      · exact de_no
    · rename_i e
      split
      · rename_i i ei; exact vis ei (by rw [h.sc]; exact .inr (.inl e))
      · exact de_no
    · rename_i e
      split
      · rename_i i ei; exact vis ei (by rw [h.sc]; exact .inr (.inr e))
      · exact de_no
    · rename_i e
      have hg : Gl X x := by show X.env.scope.names.lookup x = _; rw [h.sc]; exact e
      split
      · rename_i d ed
        obtain ⟨u, v, e1, r, q⟩ := h.gl x _ ed
        exact de_const (pe_glob hg e1 r h1) q
      · rename_i ed
        have hm : X.mg x = none := h.gl x _ ed
        split
        · rename_i n en
          have hb := ty_all _ (PySem.mem_of_lookup en)
          exact de_const (pe_bltn (v := .ty n) hg hm hb rfl h3 h1) fun _ _ => mk_ty
        · exact de_no
      · rename_i ed
        obtain ⟨_, E, hm, _⟩ := h.gl x _ ed
        exact de_const (pe_glob (v := .ref E) hg hm rfl h1) fun _ _ => by simp only [RV]; exact ⟨E, rfl, hm⟩
      · rename_i ed
        obtain ⟨_, E, hm⟩ := h.gl x _ ed
        exact de_const (pe_glob (v := .ref E) hg hm rfl h1) fun _ _ => by simp only [RV]; exact ⟨E, rfl, hm⟩
      · exact de_no
    · exact de_no
  · exact de_no
theorem constM_ok {c : Const} {k : Nat} {pos : Pos} : DE X W (.Constant c k pos) (constM c) := by
  cases c with
  | none => exact de_const pe_non fun _ _ => mk_non
  | bool b => exact de_const pe_bl fun _ _ => mk_bl
  | int i => exact de_const pe_int fun _ _ => mk_int
  | str x => exact de_const pe_str fun _ _ => mk_str
  | _ => exact de_no
theorem glob_of (h : XOk C X W) {x : Str} (e : isGlobal C x = true) : Gl X x ∧ (x == ("__debug__" : Str)) = false ∧ x ≠ "__name__" := by
  unfold isGlobal at e
  rw [Bool.and_eq_true] at e
  obtain ⟨h1, h2, h3⟩ := plain_ne e.1
  have q := e.2
  split at q
  · rename_i el
    exact ⟨by show X.env.scope.names.lookup x = _; rw [h.sc]; exact el, h1, h3⟩
  · cases q
theorem isBi_of (h : XOk C X W) {x : Str} (e : isBi C x = true) : Gl X x ∧ X.mg x = none ∧ (x == ("__debug__" : Str)) = false ∧ x ≠ "__name__" := by
  unfold isBi at e
  rw [Bool.and_eq_true] at e
  obtain ⟨h1, h2, h3⟩ := glob_of h e.1
  have q := e.2
  split at q
  · rename_i el
    exact ⟨h1, h.gl x _ el, h2, h3⟩
  · cases q
theorem callD_ok (h : XOk C X W) {x : Str} {p pos : Pos} {args : List Expr} {fs : Ev → M (List D)} (hp : plainArgs args = true) (ha : DA X W args fs) (h0 : args = [] → fs = fun _ => M.pure []) : DE X W (.Call (.Name x p) args [] pos) (callD C x args.length fs) := by
  unfold callD
  split
  · rename_i hg
    obtain ⟨h1, h2, h3⟩ := glob_of h hg
    split
    · rename_i n f e
      split
      rotate_left
      · exact de_no
      rename_i hcool
      obtain ⟨k, g, fd, ps, F, hr, hm, hk, hb⟩ := h.gl x _ e
      have hr := hr (h.calm hcool)
      cases args with
      | nil =>
        rw [h0 rfl]
        by_cases hn : n = 0
        · subst hn
          have q := de_call0 (pos := pos) (p := p) F h.gd hr h1 hm hk hb h.tk h2
          exact q
        · refine ⟨fun pins s σ H Q I ⟨m, ev, hs, rs, hrr, q⟩ => ?_⟩
          have q' : AfterM X.K X.mg W σ m H ((if ([] : List D).length = n then f [] else M.stuck) hs) _ := q
          rw [if_neg (by simpa using fun e => hn e.symm)] at q'
          exact q'.elim
      | cons a es =>
        simp only [plainArgs, Bool.and_eq_true] at hp
        exact de_call F h.gd hr h1 hm hk hb h.tk ha h2 (star_cons hp.1) (any_plain hp.2)
    · rename_i e
      have hm : X.mg x = none := h.gl x _ e
      cases args with
      | nil => exact de_no
      | cons a es =>
        simp only [plainArgs, Bool.and_eq_true] at hp
        rw [if_pos (by simp)]
        split
        · rename_i f ef
          have bo : BiOk X x f := by
            by_cases hcool : C.cool = true
            · rw [if_pos hcool] at ef
              exact bi_all (h.calm hcool) h.gd h.u _ (PySem.mem_of_lookup ef)
            · rw [if_neg hcool] at ef
              exact hot_all _ (PySem.mem_of_lookup ef)
          rcases bo with ⟨id, e1, c⟩ | ⟨T, e1, c⟩
          · exact (pe_callB c h1 hm e1 ha h3 h2 (star_cons hp.1) (any_plain hp.2)).imp fun _ _ _ q => callM_ok q
          · exact (pe_callTy c h1 hm e1 ha h3 h2 (star_cons hp.1) (any_plain hp.2)).imp fun _ _ _ q => callM_ok q
        · exact de_no
    · exact de_no
  · exact de_no
theorem methD_ok (h : XOk C X W) {m : Str} {o : Expr} {apos pos : Pos} {args : List Expr} {fo : Ev → M D} {fs : Ev → M (List D)} (ho : DE X W o fo) (ha : DA X W args fs) (h0 : args = [] → fs = fun _ => M.pure [])
    (hb : plainBase o = true) (hp : plainArgs args = true) (hl : args.length < 30) (hline : (apos.endLine == pos.line) = true) : DE X W (.Call (.Attribute o m apos) args [] pos) (methD m args.length fo fs) := by
  unfold methD
  split
  · rename_i T f e
    obtain ⟨id, pa, sl, ty, mt⟩ := mt_all (X := X) h.u ((m, args.length), T, f) (lk_mem e)
    cases args with
    | nil => rw [h0 rfl]; exact de_bm0 pa sl ty mt ho hb hline
    | cons a es => exact de_bm pa sl ty mt ho ha hb hp hl hline
  · exact de_no
theorem plain_fold {e : Expr} {env : Env} (h : noFold e = true) : ∀ x, foldedSetIterable e env x = pure x := fun x => by
  cases e <;> first | rfl | cases h
theorem pts_two {X : Cx} : True := trivial
/-! targets -/
theorem slot_ok (h : XOk C X W) {x : Str} {i : Nat} (e : slotOf C x = some i) : X.N[i]? = some x ∧ Loc X.env.scope x ∧ (X.fn x = true ∨ X.env.scope.names.lookup x = some .local) := by
  unfold slotOf at e
  split at e
  · rename_i el
    exact ⟨by rw [h.N]; exact findIx_get e, .inl (by rw [h.sc]; exact el), .inr (by rw [h.sc]; exact el)⟩
  · rename_i el
    split at e
    · rename_i hf
      exact ⟨by rw [h.N]; exact findIx_get e, .inr (by rw [h.sc]; exact el), .inl (h.fn x hf)⟩
    · cases e
  · cases e
theorem pgName_ok (h : XOk C X W) {x : Str} {i : Nat} {pos : Pos} (e : slotOf C x = some i) : PG X (.Name x pos) (gName i) := let ⟨h1, h2, h3⟩ := slot_ok h e; pg_name h.nd h1 h2 h3
theorem slots_ok (h : XOk C X W) : ∀ {es : List Expr} {is : List Nat}, slotsOf C es = some is → PGs X es (gNames is) ∧ es.length = is.length
  | [], _, e => by cases e; exact ⟨pgs_nil, rfl⟩
  | a :: es, is, e => by
    cases a <;> simp only [slotsOf] at e <;> try cases e
    split at e
    · rename_i i js e1 e2
      cases e
      obtain ⟨q1, q2⟩ := slots_ok h e2
      exact ⟨pgs_cons (pgName_ok h e1) q1 (by rfl), by simp [q2]⟩
    · cases e
theorem tgOf_ok (h : XOk C X W) {tg : Expr} {t : Tg} (e : tgOf C tg = some t) : PG X tg (gD X.K X.mg t) := by
  cases tg <;> simp only [tgOf] at e <;> try cases e
  · obtain ⟨i, ei, rfl⟩ := Option.map_eq_some_iff.mp e
    exact pg_one (pgName_ok h ei)
  · split at e
    · rename_i hp
      rw [Bool.and_eq_true] at hp
      obtain ⟨is, ei, rfl⟩ := Option.map_eq_some_iff.mp e
      obtain ⟨q1, q2⟩ := slots_ok h ei
      exact pg_many (h.calm hp.2) q1 q2 hp.1
    · cases e
theorem srcM_ok (h : XOk C X W) {tg iter : Expr} {f : Ev → M D} {fs : Ev → M (List D)} (hf : DE X W iter f) (hs : ∀ g as ks p, iter = .Call g as ks p → plainArgs as = true → DA X W as fs) : DI X W tg iter (srcM C tg iter f fs) := by
  unfold srcM
  split
  · rename_i x p args pos
    split
    · rename_i hc
      rw [Bool.and_eq_true] at hc
      obtain ⟨hb, hp⟩ := hc
      obtain ⟨h1, h2, h3, h4⟩ := isBi_of h hb
      have ha := hs _ _ _ _ rfl hp
      unfold srcOf
      split
      · rename_i ex
        subst ex
        match args, hp, ha with
        | [], _, _ => exact di_no
        | [a], hp, ha =>
          simp only [plainArgs, Bool.and_eq_true] at hp
          exact di_range1 h1 h2 ha hp.1
        | [a, b], hp, ha =>
          simp only [plainArgs, Bool.and_eq_true] at hp
          exact di_range2 h1 h2 ha hp.1 hp.2.1
        | [a, b, c], hp, ha => exact di_range3 h1 h2 ha hp
        | _ :: _ :: _ :: _ :: _, _, _ => rw [if_neg (by simp), if_neg (by simp)]; exact di_no
      · split
        · rename_i ex
          subst ex
          split
          · rename_i hk
            match args, hk, hp, ha with
            | [a], hk, hp, ha =>
              simp only [plainArgs, Bool.and_eq_true] at hp
              cases tg <;> first | exact di_enum h1 h2 ha hp.1 | (simp [isTup] at hk)
            | [], hk, _, _ => simp at hk
            | _ :: _ :: _, hk, _, _ => simp at hk
          · exact di_no
        · split
          · rename_i ex
            subst ex
            split
            · rename_i hk
              match args, hk, hp, ha with
              | [a, b], hk, hp, ha =>
                simp only [plainArgs, Bool.and_eq_true] at hp
                cases tg <;> first | exact di_zip h1 h2 ha hp.1 hp.2.1 | (simp [isTup] at hk)
              | [], hk, _, _ => simp at hk
              | [_], hk, _, _ => simp at hk
              | _ :: _ :: _ :: _, hk, _, _ => simp at hk
            · exact di_no
          · exact di_seq hf
    · exact di_seq hf
  · exact di_seq hf
end
end DL
set_option Elab.async false
set_option linter.all false
set_option maxRecDepth 100000
set_option maxHeartbeats 4000000
namespace DL
open PySem PySem.Spec PyProof.Rows L2

/-! ## classes named behind except, in isinstance -/
section
variable {C : SC} {X : Cx} {W : WX} {c y : Str} {E : Addr} {b : Bool}
theorem err_sub {K : PySem.W.Frag} {mg : Str → Option Value} (h : ErrM K mg c E) : ∃ S, mg "SilentError" = some (.ref S) ∧ S ≠ E ∧ (∀ v, PySem.W.subIn K (.ref E) v = some ([Value.ref E, .ref S, .type "ValueError", .type "Exception", .type "BaseException", .type "object"].contains v)) ∧ (PySem.W.clsIn K E).isSome = true ∧ PySem.W.typeIn K (.ref E) = some (.type "type") := by
  obtain ⟨S, cd, h1, h2, h3, h4, h5, h6, h7, h8, h9, _⟩ := h
  refine ⟨S, h4, h9, fun v => ?_, by rw [h1]; rfl, h8⟩
  show PySem.W.mroIn K E v = _
  unfold PySem.W.mroIn
  rw [h1, Option.bind_some, h3]
  rfl
theorem err_inj {K : PySem.W.Frag} {mg : Str → Option Value} {y : Str} (h : ErrM K mg c E) (h' : ErrM K mg y E) : c = y := by
  obtain ⟨S, cd, h1, h2, _⟩ := h
  obtain ⟨S', cd', g1, g2, _⟩ := h'
  rw [h1] at g1
  cases g1
  exact h2.symm.trans g2
/-- what a class that is named says of a thrown one -/
theorem hit_ok (h : XOk C X W) (hE : ErrM X.K X.mg c E) (hc : X.mg c = some (.ref E)) (e : hitE C c y = some b) : ∃ D, X.mg y = some (.ref D) ∧ PySem.W.kitOne X.K (.ref E) (.ref D) = some b ∧ PySem.W.exmOne X.K (.ref E) (.ref D) = some b := by
  obtain ⟨S, s1, s2, s3, s4, s5⟩ := err_sub hE
  have key : ∀ {D : Addr} {v : Bool}, (PySem.W.clsIn X.K D).isSome = true → PySem.W.typeIn X.K (.ref D) = some (.type "type") → PySem.W.subIn X.K (.ref D) (.type "BaseException") = some true → ([Value.ref E, .ref S, .type "ValueError", .type "Exception", .type "BaseException", .type "object"].contains (.ref D)) = v →
      PySem.W.kitOne X.K (.ref E) (.ref D) = some v ∧ PySem.W.exmOne X.K (.ref E) (.ref D) = some v := by
    intro D v h1 h2 h3 h4
    have e1 : ((PySem.W.clsIn X.K D).isSome && PySem.W.typeIn X.K (.ref D) == some (.type "type")) = true := by rw [h1, h2]; rfl
    have e2 : PySem.W.kitCls X.K (.ref E) (.ref D) = some v := by
      unfold PySem.W.kitCls
      simp only
      rw [if_pos e1, s3, h4]
    refine ⟨?_, ?_⟩
    · unfold PySem.W.kitOne
      split
      · rename_i q
        have q' := eq_of_beq q
        rw [← h4, ← q']
        simp
      · exact e2
    · unfold PySem.W.exmOne
      rw [h3]
      simpa using e2
  unfold hitE at e
  split at e
  · rename_i fld ey
    cases e
    obtain ⟨_, D, hD, _, hDM⟩ := h.gl y _ ey
    obtain ⟨S', g1, g2, g3, g4, g5⟩ := err_sub hDM
    rw [s1] at g1
    cases g1
    obtain ⟨k1, k2⟩ := key g4 g5 (by rw [g3]; simp) (v := decide (c = y)) (by
      by_cases q : c = y
      · subst q
        rw [hc] at hD
        cases hD
        simp
      · have ne : D ≠ E := fun z => q (err_inj (z ▸ hE) (hDM))
        have n2 : D ≠ S := fun z => g2 z.symm
        simp [q, ne, n2])
    exact ⟨D, hD, k1, k2⟩
  · rename_i ey
    cases e
    obtain ⟨rfl, D, hD⟩ := h.gl y _ ey
    have hD' := hD
    rw [s1] at hD'
    cases hD'
    obtain ⟨S', cd, h1, h2, h3, h4, h5, h6, h7, _⟩ := hE
    rw [hD] at h4
    cases h4
    obtain ⟨k1, k2⟩ := key h5 h7 h6 (v := true) (by simp)
    exact ⟨S, hD, k1, k2⟩
  · cases e
theorem hit_ty (hE : ErrM X.K X.mg c E) {n : String} (hn : n = "ValueError" ∨ n = "Exception") : PySem.W.kitOne X.K (.ref E) (.type n) = some true ∧ PySem.W.exmOne X.K (.ref E) (.type n) = some true := by
  obtain ⟨S, s1, s2, s3, s4, s5⟩ := err_sub hE
  have hm : PySem.W.kitMeta n = true := by rcases hn with rfl | rfl <;> decide +kernel
  have hb : PySem.W.subIn X.K (.type n) (.type "BaseException") = some true := by
    unfold PySem.W.subIn
    rcases hn with rfl | rfl <;> kernel_rfl
  have e2 : PySem.W.kitCls X.K (.ref E) (.type n) = some true := by
    unfold PySem.W.kitCls
    simp only
    rw [if_pos hm, s3]
    rcases hn with rfl | rfl <;> simp
  refine ⟨?_, ?_⟩
  · unfold PySem.W.kitOne
    split
    · rfl
    · exact e2
  · unfold PySem.W.exmOne
    rw [hb]
    simpa using e2
theorem hitD_ok (h : XOk C X W) (hE : ErrM X.K X.mg c E) (hc : X.mg c = some (.ref E)) {d : D} {m : List Addr} {H : Hp} {v : V} (e : hitD C c d = some b) (r : RV X.K X.mg m H d v) : ∃ u, ClsV v u ∧ PySem.W.kitOne X.K (.ref E) u = some b := by
  unfold hitD at e
  split at e
  · rename_i y
    obtain ⟨D, hD, k, _⟩ := hit_ok h hE hc e
    simp only [RV] at r
    obtain ⟨a, rfl, hm⟩ := r
    rw [hD] at hm
    cases hm
    exact ⟨_, .own D, k⟩
  · rename_i n
    split at e
    · rename_i hn
      cases e
      obtain rfl := rv_ty r
      exact ⟨_, .ty n, (hit_ty hE hn).1⟩
    · cases e
  · cases e
theorem hitsD_ok (h : XOk C X W) (hE : ErrM X.K X.mg c E) (hc : X.mg c = some (.ref E)) {m : List Addr} {H : Hp} : ∀ {ds : List D} {vs : List V} {b : Bool}, hitsD C c ds = some b → RVs X.K X.mg m H ds vs → ∃ us, Paired ClsV vs us ∧ PySem.W.kitAny X.K (.ref E) us = some b
  | [], vs, b, e, r => by
    rw [RVs.nil_iff] at r; subst r
    exact ⟨[], .nil, e⟩
  | d :: ds, vs, b, e, r => by
    obtain ⟨v, r', rfl, r1, r2⟩ := RVs.cons_iff.mp r
    unfold hitsD at e
    split at e
    · rename_i a b' q q'
      cases e
      obtain ⟨u, p1, p2⟩ := hitD_ok h hE hc q r1
      obtain ⟨us, p3, p4⟩ := hitsD_ok h hE hc q' r2
      refine ⟨u :: us, .cons p1 p3, ?_⟩
      unfold PySem.W.kitAny
      rw [p2]
      cases a
      · simpa using p4
      · rfl
    · cases e
/-- isinstance(e, c), isinstance(e, (c, d)) within the suite -/
theorem isiHot_ok (h : XOk C X W) {p pos : Pos} {args : List Expr} {fs : Ev → M (List D)} (hl : args.length = 2) (hb : isBi C "isinstance" = true) (hp : plainArgs args = true) (ha : DA X W args fs) : DE X W (.Call (.Name "isinstance" p) args [] pos) (isiHot C fs) := by
  obtain ⟨h1, h2, h3, h4⟩ := isBi_of h hb
  match args, hl, hp, ha with
  | [a, b'], _, hp, ha =>
  simp only [plainArgs, Bool.and_eq_true] at hp
  refine (pe_callB (id := "isinstance") (r := fun vs H Q => ∃ (m : List Addr) (xs : List D) (b : Bool), RVs X.K X.mg m H xs vs ∧ isiOf C xs = some b ∧ Q (.bl b) H) ?_ h1 h2 (by kernel_rfl) ha h4 h3 (star_cons hp.1) (any_plain (by simp [plainArgs, hp.2]))).imp fun σ H Q ⟨m, ev, hs, rs, hr, q⟩ => ?_
  · intro pins s σ H vs us Q I r q
    obtain ⟨m, xs, b, rs, eb, q⟩ := q
    unfold isiOf at eb
    split at eb
    · rename_i t c as d
      split at eb
      · rename_i ht
        obtain ⟨oe, hpin, hz, vs0, hd⟩ := h.hot _ ht
        obtain ⟨v, w, rfl, r1, r2⟩ := rvs2 rs
        simp only [RV] at r1
        obtain ⟨rfl, E, c1, c2, c3, c3', c4⟩ := r1
        obtain ⟨hget, _⟩ := I.pin (t.a, oe) (List.mem_append.mpr (.inl hpin))
        have hx : ∃ ox od, PySem.W.InstAt s.heap t.a ox E od := by
          cases ed : t.d with
          | none => exact ⟨oe, none, hget, hz.1.trans c2, by unfold PySem.W.notCls; rw [hd], by rw [hz.2, ed]; trivial⟩
          | some dd =>
            rcases c4 with ⟨_, c4⟩ | ⟨d2, c4, c5⟩
            · rw [ed] at c4; cases c4
            · rw [ed] at c4
              cases c4
              obtain ⟨mA, ⟨o, es, ep, ho, _⟩, _⟩ := (show ObjOk X.prog X.w H s.heap dd (.xd _) from I.hok dd _ c5)
              exact ⟨oe, some o, hget, hz.1.trans c2, by unfold PySem.W.notCls; rw [hd], by rw [hz.2, ed]; exact ho⟩
        have Z : PySem.W.KitX X.K (.ref t.a) (.ref E) (fun h => ∃ ox od, PySem.W.InstAt h t.a ox E od) := kitx_err (by obtain ⟨_, _, _, _, _, _, _, _, _, _, _, _, _, q⟩ := c3; exact q)
        unfold hitA at eb
        obtain ⟨u1, u2, rfl, g1, g2⟩ := vals2 r
        cases (show u1 = Value.ref t.a from g1)
        split at eb
        · rename_i ds et
          cases d <;> cases et
          obtain ⟨tp, cs, rfl, hT, r3⟩ := rv_tup r2
          obtain ⟨ws, p1, p2⟩ := hitsD_ok h c3 c1 eb r3
          exact isi_tupZ I (.cons g2 .nil) hT p1 Z hx (fun z => nomatch z) p2 q
        · obtain ⟨u, k1, k2⟩ := hitD_ok h c3 c1 eb r2
          have e2 := k1.eq g2
          subst e2
          exact PySem.W.kia_one Z I.kIn hx k2 (fun z => nomatch z) fun tk => ⟨.bl b, H, I.tok tk, rfl, q⟩
      · cases eb
    · cases eb
  · refine ⟨m, ev, hs, rs, hr, q.bind.mono fun xs m1 hs1 H1 e1 hr1 q1 vs rvs => ?_⟩
    cases eb : isiOf C xs with
    | none => simp only [eb] at q1; exact q1.elim
    | some b => simp only [eb] at q1; exact ⟨m1, xs, b, rvs, eb, q1.pure hr1 _ mk_bl⟩
theorem lf_rv {K : PySem.W.Frag} {mg : Str → Option Value} {m : List Addr} {H : Hp} (l : Lf) : RV K mg m H l.d l.v := by
  cases l <;> simp [Lf.d, Lf.v, RV]
theorem lf_lookup : ∀ {as : List (Str × Lf)} {f : Str} {l : Lf}, as.lookup f = some l → (as.map fun p => (p.1, p.2.v)).lookup f = some l.v ∧ ∃ p ∈ as, p.1 = f
  | [], _, _, h => by cases h
  | (y, k) :: r, f, l, h => by
    rw [List.lookup_cons] at h
    simp only [List.map_cons]
    rw [List.lookup_cons]
    split at h
    · rename_i q
      cases h
      exact ⟨rfl, _, List.mem_cons_self, (eq_of_beq q).symm⟩
    · obtain ⟨h1, p, h2, h3⟩ := lf_lookup h
      exact ⟨h1, p, List.mem_cons_of_mem _ h2, h3⟩
theorem attrM_ok (h : XOk C X W) {o : Expr} {f : Str} {pos : Pos} {fo : Ev → M D} (hb : plainBase o = true) (ho : DE X W o fo) : DE X W (.Attribute o f pos) (attrM C f fo) := by
  refine ⟨fun pins s σ H Q I ⟨m, ev, hs, rs, hr, q⟩ => ?_⟩
  refine attr_of (base_plain hb) (thn (ho.run pins s σ H (fun v H1 => ∃ (m1 : List Addr) (t : Tk) (c : Str) (as : List (Str × Lf)) (l : Lf), RV X.K X.mg m1 H1 (.exv t c as) v ∧ C.hot = some t ∧ as.lookup f = some l ∧ Q l.v H1) I ⟨m, ev, hs, rs, hr, q.bind.mono fun x m1 hs1 H1 e1 hr1 q1 v rv => ?_⟩) fun u s1 ⟨v, H1, I1, ru, m1, t, c, as, l, rv, ht, hl, qq⟩ => ?_)
  · cases x <;> try exact q1.elim
    rename_i t c as
    by_cases ht : C.hot = some t
    · simp only [if_pos ht] at q1
      cases hl : as.lookup f with
      | none => simp only [hl] at q1; exact q1.elim
      | some l => simp only [hl] at q1; exact ⟨m1, t, c, as, l, rv, ht, hl, q1.pure hr1 _ (lf_rv l)⟩
    · simp only [if_neg ht] at q1
      exact q1.elim
  · simp only [RV] at rv
    obtain ⟨rfl, E, c1, c2, c3, c3', c4⟩ := rv
    obtain rfl : u = Value.ref t.a := ru
    obtain ⟨oe, hpin, hz, vs0, hd⟩ := h.hot _ ht
    obtain ⟨hget, _⟩ := I1.pin (t.a, oe) (List.mem_append.mpr (.inl hpin))
    obtain ⟨hl1, p, hp1, hp2⟩ := lf_lookup hl
    have hno := c3' p hp1
    rw [hp2] at hno
    have T : L2.XfC X.K E := by obtain ⟨_, _, _, _, _, _, _, _, _, _, _, _, q, _⟩ := c3; exact q
    rcases c4 with ⟨c4, _⟩ | ⟨dd, c4, c5⟩
    · have c4 : as = [] := c4
      subst c4
      cases hp1
    · obtain ⟨mA, hns, hr2⟩ := (show ObjOk X.prog X.w H1 s1.heap dd (.xd _) from I1.hok dd _ c5)
      obtain ⟨od, ho2, hl2⟩ := lookIn_ns hns
      obtain ⟨w, hw, rw'⟩ := RelO.some_of (v := l.v) (o := mA f) (by rw [← hl1]; exact hr2 f)
      have J : PySem.W.InstAt s1.heap t.a oe E (some od) := ⟨hget, hz.1.trans c2, by unfold PySem.W.notCls; rw [hd], by rw [hz.2, c4]; exact ho2⟩
      exact HandSPX.exc_get I1.kIn J T.ga T.gg T.exC (PySem.W.findObj_own T.hdC hno rfl (by rw [hl2, hw])) (handed_of rw') ⟨l.v, H1, I1.tok _, rw', qq⟩
end
end DL
set_option Elab.async false
set_option linter.all false
set_option maxRecDepth 100000
set_option maxHeartbeats 4000000
namespace DL
open PySem PySem.Spec PyProof.Rows L2

theorem own_slots {N : List Str} : ∀ {names : List (Str × NameKind)} {x : Str} {i : Nat}, (x, i) ∈ ownOf N names → N[i]? = some x
  | [], _, _, h => by cases h
  | (y, k) :: r, x, i, h => by
    cases k <;> simp only [ownOf] at h
    · split at h
      · rename_i j e
        rcases List.mem_cons.mp h with q | q
        · cases q; exact findIx_get e
        · exact own_slots q
      · exact own_slots h
    · split at h
      · rename_i j e
        rcases List.mem_cons.mp h with q | q
        · cases q; exact findIx_get e
        · exact own_slots q
      · exact own_slots h
    all_goals exact own_slots h
section
variable {C : SC} {X : Cx} {W : WX}
theorem callAny_ok (h : XOk C X W) {f : Expr} {args : List Expr} {kws : List Keyword} {pos : Pos} {fo : Ev → M D} {fs : Ev → M (List D)} (ho : ∀ o m p, f = .Attribute o m p → DE X W o fo) (ha : plainArgs args = true → DA X W args fs) (h0 : args = [] → fs = fun _ => M.pure []) {fin : Ev → M D} (hin : ∀ g a ks q, args = [.Call g [a] ks q] → DE X W a fin) :
    DE X W (.Call f args kws pos) (callAny C f args kws pos fo fs fin) := by
  unfold callAny
  split
  · split
    · rename_i x p hb
      unfold isSortSet at hb
      simp only [Bool.and_eq_true] at hb
      obtain ⟨⟨⟨b0, b1⟩, b2⟩, b3⟩ := hb
      split at b3
      · simp only [Bool.and_eq_true] at b3
        obtain ⟨⟨b4, b5⟩, b6⟩ := b3
        obtain rfl := eq_of_beq b1
        obtain rfl := eq_of_beq b4
        obtain ⟨g1, g2, _, _⟩ := isBi_of h b2
        obtain ⟨g3, g4, _, _⟩ := isBi_of h b5
        exact de_sortset (h.calm b0) g1 g2 g3 g4 (hin _ _ _ _ rfl) (star_cons b6)
      · cases b3
    · split
      · rename_i x p _ hi
        unfold isIsi at hi
        simp only [Bool.and_eq_true] at hi
        obtain ⟨⟨⟨_, i1⟩, i2⟩, i3⟩ := hi
        obtain rfl := eq_of_beq i1
        split
        · rename_i hp; exact isiHot_ok h (eq_of_beq i3) i2 hp (ha hp)
        · exact de_no
      · split
        · rename_i hp; exact callD_ok h hp (ha hp) h0
        · exact de_no
  · split
    · rename_i hp
      simp only [Bool.and_eq_true, decide_eq_true_eq] at hp
      obtain ⟨⟨⟨h1, h2⟩, h3⟩, h4⟩ := hp
      exact methD_ok h (ho _ _ _ rfl) (ha h1) h0 h2 h1 h3 h4
    · exact de_no
  · exact de_no
theorem subAny_ok {a i : Expr} {pos : Pos} {fa fi : Ev → M D} {fl fh : Ev → M (Option Int)} (ha : DE X W a fa) (hi : DE X W i fi) (hl : ∀ lo hi st p, i = .Slice lo hi st p → DO X W lo fl ∧ DO X W hi fh) : DE X W (.Subscript a i pos) (subAny i fa fi fl fh) := by
  unfold subAny
  split
  · split
    · obtain ⟨q1, q2⟩ := hl _ _ _ _ rfl; exact de_slice ha q1 q2
    · split
      · exact de_rev ha
      · exact de_no
    · exact de_no
  · rename_i hn
    refine de_ix ha hi (ix_plain ?_)
    cases i <;> first | rfl | (exfalso; exact hn _ _ _ _ rfl)
theorem cmpAny_ok (h : XOk C X W) {a : Expr} {ops : List CmpOp} {cs : List Expr} {pos : Pos} {fa fb fc : Ev → M D} (ha : DE X W a fa) (hb : ∀ b r, cs = b :: r → DE X W b fb) (hc : ∀ b c r, cs = b :: c :: r → DE X W c fc) : DE X W (.Compare a ops cs pos) (cmpAny ops cs fa fb fc) := by
  unfold cmpAny
  split
  · split
    · rename_i hm; exact de_cmp h.u ha (hb _ _ rfl) (mark_plain hm)
    · exact de_no
  · split
    · rename_i hm
      rw [Bool.and_eq_true] at hm
      exact de_cmp2 h.u ha (hb _ _ rfl) (hc _ _ _ rfl) (marks_plain hm.1 hm.2)
    · exact de_no
  · exact de_no
theorem cmpAny_okT (h : XOk C X W) {a : Expr} {ops : List CmpOp} {cs : List Expr} {pos : Pos} {fa fb fc : Ev → M D} (ha : DE X W a fa) (hb : ∀ b r, cs = b :: r → DE X W b fb) (hc : ∀ b c r, cs = b :: c :: r → DE X W c fc) : DT X W (.Compare a ops cs pos) (asTest (cmpAny ops cs fa fb fc)) := by
  unfold cmpAny
  split
  · split
    · rename_i hm; exact dt_cmp h.u ha (hb _ _ rfl) (mark_plain hm)
    · exact dt_no
  · split
    · rename_i hm
      rw [Bool.and_eq_true] at hm
      exact dt_cmp2 h.u ha (hb _ _ rfl) (hc _ _ _ rfl) (marks_plain hm.1 hm.2)
    · exact dt_no
  · exact dt_no
theorem compAny_ok (h : XOk C X W) {elt : Expr} {gens : List Comprehension} {scope : Scope} {pos : Pos} {fi fe : Ev → M D} {fs : Ev → M (List D)} {ft : Ev → M Bool}
    (hi : ∀ tg iter ifs k r, gens = ⟨tg, iter, ifs, k⟩ :: r → DE X W iter fi) (hs : ∀ tg iter ifs k r, gens = ⟨tg, iter, ifs, k⟩ :: r → ∀ g as ks p, iter = .Call g as ks p → plainArgs as = true → DA X W as fs)
    (ht : ∀ {X : Cx} tg iter ifs k r, gens = ⟨tg, iter, ifs, k⟩ :: r → XOk (C.blk scope) X WF → DTs X WF ifs ft) (he : ∀ {X : Cx}, XOk (C.blk scope) X WF → DE X WF elt fe)
    {fi1 : Ev → M D} {fs1 : Ev → M (List D)} {ft1 : Ev → M Bool} (hi1 : ∀ {X : Cx} g tg iter ifs k r, gens = g :: ⟨tg, iter, ifs, k⟩ :: r → XOk (C.blk scope) X WF → DE X WF iter fi1) (hs1 : ∀ {X : Cx} g tg iter ifs k r, gens = g :: ⟨tg, iter, ifs, k⟩ :: r → XOk (C.blk scope) X WF → ∀ g as ks p, iter = .Call g as ks p → plainArgs as = true → DA X WF as fs1)
    (ht1 : ∀ {X : Cx} g tg iter ifs k r, gens = g :: ⟨tg, iter, ifs, k⟩ :: r → XOk (C.blk scope) X WF → DTs X WF ifs ft1) :
    DE X W (.ListComp elt gens scope pos) (compAny C gens scope fi fs ft fi1 fs1 ft1 fe) := by
  unfold compAny
  split
  · rename_i tg iter ifs
    split
    · rename_i t et
      split
      · rename_i hc
        simp only [Bool.and_eq_true] at hc
        obtain ⟨⟨⟨h0, h1⟩, h2⟩, h3⟩ := hc
        have ok : BlkOk X.N X.env.scope scope (ownOf C.N scope.names) := by rw [h.N, h.sc]; exact blkOk_by h1
        have hb := fun s H Cc cl fp => h.blk h0 ok.kind s H Cc cl fp
        refine de_lc (h.calm h0) h.nd (srcM_ok h (hi _ _ _ _ _ rfl) (hs _ _ _ _ _ rfl)) ok (fun i hi => ?_) (fun s H Cc cl fp => tgOf_ok (hb s H Cc cl fp) et) (fun s H Cc cl fp => ht _ _ _ _ _ rfl (hb s H Cc cl fp)) (fun s H Cc cl fp => he (hb s H Cc cl fp)) (plain_fold h3)
        exact of_decide_eq_true (List.all_eq_true.mp h2 i hi)
      · exact de_no
    · exact de_no
  · rename_i tg iter ifs tg1 iter1 ifs1
    split
    · rename_i t t1 et et1
      split
      · rename_i hc
        simp only [Bool.and_eq_true] at hc
        obtain ⟨⟨⟨⟨⟨h0, h1⟩, h2⟩, h2'⟩, h3⟩, h3'⟩ := hc
        have ok : BlkOk X.N X.env.scope scope (ownOf C.N scope.names) := by rw [h.N, h.sc]; exact blkOk_by h1
        have hb := fun s H Cc cl fp => h.blk h0 ok.kind s H Cc cl fp
        refine de_lc2 (h.calm h0) h.nd (srcM_ok h (hi _ _ _ _ _ rfl) (hs _ _ _ _ _ rfl)) ok (fun i hi => of_decide_eq_true (List.all_eq_true.mp h2 i hi)) (fun i hi => of_decide_eq_true (List.all_eq_true.mp h2' i hi)) (fun s H Cc cl fp => tgOf_ok (hb s H Cc cl fp) et) (fun s H Cc cl fp => ht _ _ _ _ _ rfl (hb s H Cc cl fp))
          (fun s H Cc cl fp => srcM_ok (hb s H Cc cl fp) (hi1 _ _ _ _ _ _ rfl (hb s H Cc cl fp)) (hs1 _ _ _ _ _ _ rfl (hb s H Cc cl fp))) (fun s H Cc cl fp => tgOf_ok (hb s H Cc cl fp) et1) (fun s H Cc cl fp => ht1 _ _ _ _ _ _ rfl (hb s H Cc cl fp)) (fun s H Cc cl fp => he (hb s H Cc cl fp)) (plain_fold h3) (fun env x => plain_fold h3' x)
      · exact de_no
    · exact de_no
  · exact de_no
end
theorem evs_all (C : SC) : ∀ es, evs C es = consAll (es.map (ev C))
  | [] => by rw [evs]; rfl
  | e :: es => by
    rw [evs, evs_all C es]
    rfl
mutual
theorem ev_ok : ∀ (e : Expr) {C : SC} {X : Cx} {W : WX}, XOk C X W → DE X W e (ev C e)
  | .Constant c k pos, C, X, W, h => by rw [ev]; exact constM_ok
  | .Name x pos, C, X, W, h => by rw [ev]; exact nameM_ok h
  | .BoolOp op vs pos, C, X, W, h => by
    cases op
    · simp only [ev]; exact evAnd_ok vs h
    · simp only [ev]; exact evOr_ok vs h
  | .BinOp a op b pos, C, X, W, h => by rw [ev]; exact de_bin (ev_ok a h) (ev_ok b h)
  | .UnaryOp op a pos, C, X, W, h => by
    cases op
    · simp only [ev]; exact de_no
    · simp only [ev]; exact de_not (ev_ok a h)
    · simp only [ev]; exact de_no
    · simp only [ev]; exact de_neg (ev_ok a h)
  | .IfExp c a b pos, C, X, W, h => by rw [ev]; exact de_if (evT_ok c h) (ev_ok a h) (ev_ok b h)
  | .Compare a ops cs pos, C, X, W, h => by
    rw [ev]
    exact cmpAny_ok h (ev_ok a h) (ev1_ok cs h) (ev2_ok cs h)
  | .Call f args kws pos, C, X, W, h => by
    rw [ev]
    exact callAny_ok h (evRecv_ok f h) (evs_ok args h) (fun e => by subst e; rw [evs]) (evIn_ok args h)
  | .Subscript a i pos, C, X, W, h => by
    rw [ev]
    exact subAny_ok (ev_ok a h) (ev_ok i h) (evLH_ok i h)
  | .Tuple es k pos, C, X, W, h => by
    rw [ev]
    split
    · rename_i hp; exact de_tup (evs_ok es h hp)
    · exact de_no
  | .List es pos, C, X, W, h => by
    rw [ev]
    split
    · rename_i hp; exact de_lst (evs_ok es h hp)
    · exact de_no
  | .ListComp elt gens scope pos, C, X, W, h => by
    rw [ev]
    exact compAny_ok h (evGen_ok gens h) (evGenA_ok gens h) (fun {X} => evGenIf_ok gens) (fun {X} h => ev_ok elt h) (fun {X} => evGen1_ok gens) (fun {X} => evGenA1_ok gens) (fun {X} => evGenIf1_ok gens)
  | .NamedExpr .., _, _, _, _ => by simp only [ev]; exact de_no
  | .Lambda .., _, _, _, _ => by simp only [ev]; exact de_no
  | .Dict ks vs pos, C, X, W, h => by
    simp only [ev]
    split
    · exact de_nilDict
    · rw [evs_all]
      exact dispAny_ok (evE_ok vs h)
  | .Set .., _, _, _, _ => by simp only [ev]; exact de_no
  | .SetComp .., _, _, _, _ => by simp only [ev]; exact de_no
  | .DictComp .., _, _, _, _ => by simp only [ev]; exact de_no
  | .GeneratorExp .., _, _, _, _ => by simp only [ev]; exact de_no
  | .Await .., _, _, _, _ => by simp only [ev]; exact de_no
  | .Yield .., _, _, _, _ => by simp only [ev]; exact de_no
  | .YieldFrom .., _, _, _, _ => by simp only [ev]; exact de_no
  | .FormattedValue .., _, _, _, _ => by simp only [ev]; exact de_no
  | .JoinedStr .., _, _, _, _ => by simp only [ev]; exact de_no
  | .Attribute o f pos, C, X, W, h => by
    rw [ev]
    unfold attrAny
    split
    · rename_i hb
      rw [Bool.and_eq_true] at hb
      exact attrM_ok h hb.2 (ev_ok o h)
    · exact de_no
  | .Starred .., _, _, _, _ => by simp only [ev]; exact de_no
  | .Slice .., _, _, _, _ => by simp only [ev]; exact de_no
theorem evs_ok : ∀ (es : List Expr) {C : SC} {X : Cx} {W : WX}, XOk C X W → plainArgs es = true → DA X W es (evs C es)
  | [], C, X, W, h, hp => by rw [evs]; exact da_nil
  | e :: es, C, X, W, h, hp => by
    rw [evs]
    simp only [plainArgs, Bool.and_eq_true] at hp
    exact da_cons (ev_ok e h) (evs_ok es h hp.2) (star_cons hp.1)
theorem evE_ok : ∀ (es : List Expr) {C : SC} {X : Cx} {W : WX}, XOk C X W → ∀ e ∈ es, DE X W e (ev C e)
  | [], _, _, _, _, _, he => by cases he
  | e :: es, C, X, W, h, b, he => by
    rcases List.mem_cons.mp he with q | he
    · rw [q]; exact ev_ok e h
    · exact evE_ok es h b he
theorem ev1_ok : ∀ (es : List Expr) {C : SC} {X : Cx} {W : WX}, XOk C X W → ∀ b r, es = b :: r → DE X W b (ev1 C es)
  | [], _, _, _, _, _, _, e => nomatch e
  | e :: es, C, X, W, h, b, r, q => by cases q; rw [ev1]; exact ev_ok e h
theorem ev2_ok : ∀ (es : List Expr) {C : SC} {X : Cx} {W : WX}, XOk C X W → ∀ b c r, es = b :: c :: r → DE X W c (ev2 C es)
  | [], _, _, _, _, _, _, _, e => nomatch e
  | e :: es, C, X, W, h, b, c, r, q => by
    have q2 : es = c :: r := by cases q; rfl
    rw [ev2]
    exact ev1_ok es h c r q2
theorem evRecv_ok : ∀ (f : Expr) {C : SC} {X : Cx} {W : WX}, XOk C X W → ∀ o m p, f = .Attribute o m p → DE X W o (evRecv C f)
  | .Attribute o _ _, C, X, W, h, o', m, p, q => by cases q; rw [evRecv]; exact ev_ok o h
  | .Constant .., _, _, _, _, _, _, _, q => nomatch q
  | .Name .., _, _, _, _, _, _, _, q => nomatch q
  | .BoolOp .., _, _, _, _, _, _, _, q => nomatch q
  | .BinOp .., _, _, _, _, _, _, _, q => nomatch q
  | .UnaryOp .., _, _, _, _, _, _, _, q => nomatch q
  | .IfExp .., _, _, _, _, _, _, _, q => nomatch q
  | .Compare .., _, _, _, _, _, _, _, q => nomatch q
  | .Call .., _, _, _, _, _, _, _, q => nomatch q
  | .Subscript .., _, _, _, _, _, _, _, q => nomatch q
  | .Tuple .., _, _, _, _, _, _, _, q => nomatch q
  | .List .., _, _, _, _, _, _, _, q => nomatch q
  | .ListComp .., _, _, _, _, _, _, _, q => nomatch q
  | .NamedExpr .., _, _, _, _, _, _, _, q => nomatch q
  | .Lambda .., _, _, _, _, _, _, _, q => nomatch q
  | .Dict .., _, _, _, _, _, _, _, q => nomatch q
  | .Set .., _, _, _, _, _, _, _, q => nomatch q
  | .SetComp .., _, _, _, _, _, _, _, q => nomatch q
  | .DictComp .., _, _, _, _, _, _, _, q => nomatch q
  | .GeneratorExp .., _, _, _, _, _, _, _, q => nomatch q
  | .Await .., _, _, _, _, _, _, _, q => nomatch q
  | .Yield .., _, _, _, _, _, _, _, q => nomatch q
  | .YieldFrom .., _, _, _, _, _, _, _, q => nomatch q
  | .FormattedValue .., _, _, _, _, _, _, _, q => nomatch q
  | .JoinedStr .., _, _, _, _, _, _, _, q => nomatch q
  | .Starred .., _, _, _, _, _, _, _, q => nomatch q
  | .Slice .., _, _, _, _, _, _, _, q => nomatch q
theorem evArgs_ok : ∀ (f : Expr) {C : SC} {X : Cx} {W : WX}, XOk C X W → ∀ g as ks p, f = .Call g as ks p → plainArgs as = true → DA X W as (evArgs C f)
  | .Call _ as _ _, C, X, W, h, g, as', ks, p, q, hp => by cases q; rw [evArgs]; exact evs_ok as h hp
  | .Constant .., _, _, _, _, _, _, _, _, q, _ => nomatch q
  | .Name .., _, _, _, _, _, _, _, _, q, _ => nomatch q
  | .BoolOp .., _, _, _, _, _, _, _, _, q, _ => nomatch q
  | .BinOp .., _, _, _, _, _, _, _, _, q, _ => nomatch q
  | .UnaryOp .., _, _, _, _, _, _, _, _, q, _ => nomatch q
  | .IfExp .., _, _, _, _, _, _, _, _, q, _ => nomatch q
  | .Compare .., _, _, _, _, _, _, _, _, q, _ => nomatch q
  | .Attribute .., _, _, _, _, _, _, _, _, q, _ => nomatch q
  | .Subscript .., _, _, _, _, _, _, _, _, q, _ => nomatch q
  | .Tuple .., _, _, _, _, _, _, _, _, q, _ => nomatch q
  | .List .., _, _, _, _, _, _, _, _, q, _ => nomatch q
  | .ListComp .., _, _, _, _, _, _, _, _, q, _ => nomatch q
  | .NamedExpr .., _, _, _, _, _, _, _, _, q, _ => nomatch q
  | .Lambda .., _, _, _, _, _, _, _, _, q, _ => nomatch q
  | .Dict .., _, _, _, _, _, _, _, _, q, _ => nomatch q
  | .Set .., _, _, _, _, _, _, _, _, q, _ => nomatch q
  | .SetComp .., _, _, _, _, _, _, _, _, q, _ => nomatch q
  | .DictComp .., _, _, _, _, _, _, _, _, q, _ => nomatch q
  | .GeneratorExp .., _, _, _, _, _, _, _, _, q, _ => nomatch q
  | .Await .., _, _, _, _, _, _, _, _, q, _ => nomatch q
  | .Yield .., _, _, _, _, _, _, _, _, q, _ => nomatch q
  | .YieldFrom .., _, _, _, _, _, _, _, _, q, _ => nomatch q
  | .FormattedValue .., _, _, _, _, _, _, _, _, q, _ => nomatch q
  | .JoinedStr .., _, _, _, _, _, _, _, _, q, _ => nomatch q
  | .Starred .., _, _, _, _, _, _, _, _, q, _ => nomatch q
  | .Slice .., _, _, _, _, _, _, _, _, q, _ => nomatch q
theorem evFst_ok : ∀ (f : Expr) {C : SC} {X : Cx} {W : WX}, XOk C X W → ∀ g as ks p, f = .Call g as ks p → ∀ b r, as = b :: r → DE X W b (evFst C f)
  | .Call _ as _ _, C, X, W, h, g, as', ks, p, q, b, r, e => by cases q; rw [evFst]; exact ev1_ok as h b r e
  | .Constant .., _, _, _, _, _, _, _, _, q, _, _, _ => nomatch q
  | .Name .., _, _, _, _, _, _, _, _, q, _, _, _ => nomatch q
  | .BoolOp .., _, _, _, _, _, _, _, _, q, _, _, _ => nomatch q
  | .BinOp .., _, _, _, _, _, _, _, _, q, _, _, _ => nomatch q
  | .UnaryOp .., _, _, _, _, _, _, _, _, q, _, _, _ => nomatch q
  | .IfExp .., _, _, _, _, _, _, _, _, q, _, _, _ => nomatch q
  | .Compare .., _, _, _, _, _, _, _, _, q, _, _, _ => nomatch q
  | .Attribute .., _, _, _, _, _, _, _, _, q, _, _, _ => nomatch q
  | .Subscript .., _, _, _, _, _, _, _, _, q, _, _, _ => nomatch q
  | .Tuple .., _, _, _, _, _, _, _, _, q, _, _, _ => nomatch q
  | .List .., _, _, _, _, _, _, _, _, q, _, _, _ => nomatch q
  | .ListComp .., _, _, _, _, _, _, _, _, q, _, _, _ => nomatch q
  | .NamedExpr .., _, _, _, _, _, _, _, _, q, _, _, _ => nomatch q
  | .Lambda .., _, _, _, _, _, _, _, _, q, _, _, _ => nomatch q
  | .Dict .., _, _, _, _, _, _, _, _, q, _, _, _ => nomatch q
  | .Set .., _, _, _, _, _, _, _, _, q, _, _, _ => nomatch q
  | .SetComp .., _, _, _, _, _, _, _, _, q, _, _, _ => nomatch q
  | .DictComp .., _, _, _, _, _, _, _, _, q, _, _, _ => nomatch q
  | .GeneratorExp .., _, _, _, _, _, _, _, _, q, _, _, _ => nomatch q
  | .Await .., _, _, _, _, _, _, _, _, q, _, _, _ => nomatch q
  | .Yield .., _, _, _, _, _, _, _, _, q, _, _, _ => nomatch q
  | .YieldFrom .., _, _, _, _, _, _, _, _, q, _, _, _ => nomatch q
  | .FormattedValue .., _, _, _, _, _, _, _, _, q, _, _, _ => nomatch q
  | .JoinedStr .., _, _, _, _, _, _, _, _, q, _, _, _ => nomatch q
  | .Starred .., _, _, _, _, _, _, _, _, q, _, _, _ => nomatch q
  | .Slice .., _, _, _, _, _, _, _, _, q, _, _, _ => nomatch q
theorem evIn_ok : ∀ (es : List Expr) {C : SC} {X : Cx} {W : WX}, XOk C X W → ∀ g a ks q, es = [.Call g [a] ks q] → DE X W a (evIn C es)
  | [], _, _, _, _, _, _, _, _, e => nomatch e
  | e :: es, C, X, W, h, g, a, ks, q, z => by
    have z1 : e = .Call g [a] ks q := by cases z; rfl
    rw [evIn]
    exact evFst_ok e h g [a] ks q z1 a [] rfl
theorem evGen1_ok : ∀ (gens : List Comprehension) {C : SC} {X : Cx} g tg iter ifs k r, gens = g :: ⟨tg, iter, ifs, k⟩ :: r → XOk C X WF → DE X WF iter (evGen1 C gens)
  | [], _, _, _, _, _, _, _, _, q, _ => nomatch q
  | _ :: gs, C, X, g, tg, iter, ifs, k, r, q, h => by
    have q2 : gs = ⟨tg, iter, ifs, k⟩ :: r := by cases q; rfl
    rw [evGen1]
    exact evGen_ok gs h tg iter ifs k r q2
theorem evGenA1_ok : ∀ (gens : List Comprehension) {C : SC} {X : Cx} g tg iter ifs k r, gens = g :: ⟨tg, iter, ifs, k⟩ :: r → XOk C X WF → ∀ g as ks p, iter = .Call g as ks p → plainArgs as = true → DA X WF as (evGenA1 C gens)
  | [], _, _, _, _, _, _, _, _, q, _ => nomatch q
  | _ :: gs, C, X, g, tg, iter, ifs, k, r, q, h => by
    have q2 : gs = ⟨tg, iter, ifs, k⟩ :: r := by cases q; rfl
    rw [evGenA1]
    exact evGenA_ok gs h tg iter ifs k r q2
theorem evGenIf1_ok : ∀ (gens : List Comprehension) {C : SC} {X : Cx} g tg iter ifs k r, gens = g :: ⟨tg, iter, ifs, k⟩ :: r → XOk C X WF → DTs X WF ifs (evGenIf1 C gens)
  | [], _, _, _, _, _, _, _, _, q, _ => nomatch q
  | _ :: gs, C, X, g, tg, iter, ifs, k, r, q, h => by
    have q2 : gs = ⟨tg, iter, ifs, k⟩ :: r := by cases q; rfl
    rw [evGenIf1]
    exact evGenIf_ok gs tg iter ifs k r q2 h
theorem evLH_ok : ∀ (i : Expr) {C : SC} {X : Cx} {W : WX}, XOk C X W → ∀ lo hi st p, i = .Slice lo hi st p → DO X W lo (evLo C i) ∧ DO X W hi (evHi C i)
  | .Slice lo hi _ _, C, X, W, h, lo', hi', st, p, q => by cases q; rw [evLo, evHi]; exact ⟨evO_ok lo h, evO_ok hi h⟩
  | .Constant .., _, _, _, _, _, _, _, _, q => nomatch q
  | .Name .., _, _, _, _, _, _, _, _, q => nomatch q
  | .BoolOp .., _, _, _, _, _, _, _, _, q => nomatch q
  | .BinOp .., _, _, _, _, _, _, _, _, q => nomatch q
  | .UnaryOp .., _, _, _, _, _, _, _, _, q => nomatch q
  | .IfExp .., _, _, _, _, _, _, _, _, q => nomatch q
  | .Compare .., _, _, _, _, _, _, _, _, q => nomatch q
  | .Attribute .., _, _, _, _, _, _, _, _, q => nomatch q
  | .Subscript .., _, _, _, _, _, _, _, _, q => nomatch q
  | .Tuple .., _, _, _, _, _, _, _, _, q => nomatch q
  | .List .., _, _, _, _, _, _, _, _, q => nomatch q
  | .ListComp .., _, _, _, _, _, _, _, _, q => nomatch q
  | .NamedExpr .., _, _, _, _, _, _, _, _, q => nomatch q
  | .Lambda .., _, _, _, _, _, _, _, _, q => nomatch q
  | .Dict .., _, _, _, _, _, _, _, _, q => nomatch q
  | .Set .., _, _, _, _, _, _, _, _, q => nomatch q
  | .SetComp .., _, _, _, _, _, _, _, _, q => nomatch q
  | .DictComp .., _, _, _, _, _, _, _, _, q => nomatch q
  | .GeneratorExp .., _, _, _, _, _, _, _, _, q => nomatch q
  | .Await .., _, _, _, _, _, _, _, _, q => nomatch q
  | .Yield .., _, _, _, _, _, _, _, _, q => nomatch q
  | .YieldFrom .., _, _, _, _, _, _, _, _, q => nomatch q
  | .FormattedValue .., _, _, _, _, _, _, _, _, q => nomatch q
  | .JoinedStr .., _, _, _, _, _, _, _, _, q => nomatch q
  | .Starred .., _, _, _, _, _, _, _, _, q => nomatch q
  | .Call .., _, _, _, _, _, _, _, _, q => nomatch q
theorem evGen_ok : ∀ (gens : List Comprehension) {C : SC} {X : Cx} {W : WX}, XOk C X W → ∀ tg iter ifs k r, gens = ⟨tg, iter, ifs, k⟩ :: r → DE X W iter (evGen C gens)
  | [], _, _, _, _, _, _, _, _, _, q => nomatch q
  | ⟨_, iter, _, _⟩ :: _, C, X, W, h, tg, iter', ifs, k, r, q => by cases q; rw [evGen]; exact ev_ok iter h
theorem evGenA_ok : ∀ (gens : List Comprehension) {C : SC} {X : Cx} {W : WX}, XOk C X W → ∀ tg iter ifs k r, gens = ⟨tg, iter, ifs, k⟩ :: r → ∀ g as ks p, iter = .Call g as ks p → plainArgs as = true → DA X W as (evGenA C gens)
  | [], _, _, _, _, _, _, _, _, _, q => nomatch q
  | ⟨_, iter, _, _⟩ :: _, C, X, W, h, tg, iter', ifs, k, r, q => by cases q; rw [evGenA]; exact evArgs_ok iter h
theorem evGenIf_ok : ∀ (gens : List Comprehension) {C : SC} {X : Cx} {W : WX} tg iter ifs k r, gens = ⟨tg, iter, ifs, k⟩ :: r → XOk C X W → DTs X W ifs (evGenIf C gens)
  | [], _, _, _, _, _, _, _, _, q, _ => nomatch q
  | ⟨_, _, ifs, _⟩ :: _, C, X, W, tg, iter', ifs', k, r, q, h => by cases q; rw [evGenIf]; exact evIfs_ok ifs h
theorem evAnd_ok : ∀ (es : List Expr) {C : SC} {X : Cx} {W : WX} {pos : Pos}, XOk C X W → DE X W (.BoolOp .And es pos) (evAnd C es)
  | [], C, X, W, pos, h => by rw [evAnd]; exact de_no
  | [e], C, X, W, pos, h => by rw [evAnd]; exact pe_one (ev_ok e h)
  | e :: e2 :: es, C, X, W, pos, h => by
    rw [evAnd]
    exact de_and (ev_ok e h) (evAnd_ok (e2 :: es) h)
theorem evOr_ok : ∀ (es : List Expr) {C : SC} {X : Cx} {W : WX} {pos : Pos}, XOk C X W → DE X W (.BoolOp .Or es pos) (evOr C es)
  | [], C, X, W, pos, h => by rw [evOr]; exact de_no
  | [e], C, X, W, pos, h => by rw [evOr]; exact pe_one (ev_ok e h)
  | e :: e2 :: es, C, X, W, pos, h => by
    rw [evOr]
    exact de_or (ev_ok e h) (evOr_ok (e2 :: es) h)
theorem evO_ok : ∀ (o : Option Expr) {C : SC} {X : Cx} {W : WX}, XOk C X W → DO X W o (evO C o)
  | none, C, X, W, h => by rw [evO]; exact do_none
  | some e, C, X, W, h => by rw [evO]; exact do_some (ev_ok e h)
theorem evT_ok : ∀ (e : Expr) {C : SC} {X : Cx} {W : WX}, XOk C X W → DT X W e (evT C e)
  | .UnaryOp op a pos, C, X, W, h => by
    cases op
    · simp only [evT]; exact dt_no
    · simp only [evT]; exact dt_not (evT_ok a h)
    · simp only [evT]; exact dt_no
    · simp only [evT]; exact dt_truth (de_neg (ev_ok a h)) (fun _ => rfl)
  | .BoolOp op vs pos, C, X, W, h => by
    cases op
    · simp only [evT]; exact (evTAnd_ok vs h).pt
    · simp only [evT]; exact (evTOr_ok vs h).pt
  | .Compare a ops cs pos, C, X, W, h => by
    rw [evT]
    exact cmpAny_okT h (ev_ok a h) (ev1_ok cs h) (ev2_ok cs h)
  | .Name x pos, C, X, W, h => by rw [evT]; exact dt_truth (nameM_ok h) (fun _ => rfl)
  | .Call f args kws pos, C, X, W, h => by
    rw [evT]
    exact dt_truth (callAny_ok h (evRecv_ok f h) (evs_ok args h) (fun e => by subst e; rw [evs]) (evIn_ok args h)) (fun _ => rfl)
  | .Subscript a i pos, C, X, W, h => by
    rw [evT]
    exact dt_truth (subAny_ok (ev_ok a h) (ev_ok i h) (evLH_ok i h)) (fun _ => rfl)
  | .Constant c k pos, C, X, W, h => by rw [evT]; exact dt_truth constM_ok (fun _ => rfl)
  | .IfExp .., _, _, _, _ => by simp only [evT]; exact dt_no
  | .BinOp .., _, _, _, _ => by simp only [evT]; exact dt_no
  | .Tuple .., _, _, _, _ => by simp only [evT]; exact dt_no
  | .List .., _, _, _, _ => by simp only [evT]; exact dt_no
  | .ListComp .., _, _, _, _ => by simp only [evT]; exact dt_no
  | .NamedExpr .., _, _, _, _ => by simp only [evT]; exact dt_no
  | .Lambda .., _, _, _, _ => by simp only [evT]; exact dt_no
  | .Dict .., _, _, _, _ => by simp only [evT]; exact dt_no
  | .Set .., _, _, _, _ => by simp only [evT]; exact dt_no
  | .SetComp .., _, _, _, _ => by simp only [evT]; exact dt_no
  | .DictComp .., _, _, _, _ => by simp only [evT]; exact dt_no
  | .GeneratorExp .., _, _, _, _ => by simp only [evT]; exact dt_no
  | .Await .., _, _, _, _ => by simp only [evT]; exact dt_no
  | .Yield .., _, _, _, _ => by simp only [evT]; exact dt_no
  | .YieldFrom .., _, _, _, _ => by simp only [evT]; exact dt_no
  | .FormattedValue .., _, _, _, _ => by simp only [evT]; exact dt_no
  | .JoinedStr .., _, _, _, _ => by simp only [evT]; exact dt_no
  | .Attribute .., _, _, _, _ => by simp only [evT]; exact dt_no
  | .Starred .., _, _, _, _ => by simp only [evT]; exact dt_no
  | .Slice .., _, _, _, _ => by simp only [evT]; exact dt_no
theorem evTAnd_ok : ∀ (es : List Expr) {C : SC} {X : Cx} {W : WX} {pos : Pos}, XOk C X W → DW X W (.BoolOp .And es pos) (evTAnd C es)
  | [], C, X, W, pos, h => by rw [evTAnd]; exact ⟨fun _ _ _ _ _ _ _ ⟨_, _, _, _, _, q⟩ => q.elim⟩
  | [e], C, X, W, pos, h => by rw [evTAnd]; exact pw_and1 (evT_ok e h)
  | e :: e2 :: es, C, X, W, pos, h => by
    rw [evTAnd]
    exact dw_and (evT_ok e h) (evTAnd_ok (e2 :: es) h)
theorem evTOr_ok : ∀ (es : List Expr) {C : SC} {X : Cx} {W : WX} {pos : Pos}, XOk C X W → DW X W (.BoolOp .Or es pos) (evTOr C es)
  | [], C, X, W, pos, h => by rw [evTOr]; exact ⟨fun _ _ _ _ _ _ _ ⟨_, _, _, _, _, q⟩ => q.elim⟩
  | [e], C, X, W, pos, h => by rw [evTOr]; exact pw_or1 (evT_ok e h)
  | e :: e2 :: es, C, X, W, pos, h => by
    rw [evTOr]
    exact dw_or (evT_ok e h) (evTOr_ok (e2 :: es) h)
theorem evIfs_ok : ∀ (es : List Expr) {C : SC} {X : Cx} {W : WX}, XOk C X W → DTs X W es (evIfs C es)
  | [], C, X, W, h => by rw [evIfs]; exact ⟨fun pins s σ H Q I ⟨m, ev, hs, rs, hr, q⟩ => pts_nil.run pins s σ H Q I (q.pure hr)⟩
  | [e], C, X, W, h => by rw [evIfs]; exact pts_one (evT_ok e h)
  | _ :: _ :: _, C, X, W, h => by rw [evIfs]; exact ⟨fun _ _ _ _ _ _ ⟨_, _, _, _, _, q⟩ => q.elim⟩
end
end DL
set_option Elab.async false
set_option linter.all false
set_option maxRecDepth 100000
set_option maxHeartbeats 4000000
namespace DL
open PySem PySem.Spec PyProof.Rows L2

/-! ## statements -/
def noComp : Expr → Bool
  | .ListComp .. => false
  | .SetComp .. => false
  | .DictComp .. => false
  | _ => true
theorem swaps_no {e : Expr} {t : Option Expr} {l : Nat} {env : Env} (h : noComp e = true) : swapsWith e t l env = pure false := by
  cases e <;> first | rfl | cases h
def stuckS : Ev → S := fun _ _ => none
/-- two or three local names of one line, from as many values that are not all constants -/
def parOk (C : SC) (ts vs : List Expr) : Bool := match ts, vs with
  | [.Name x px, .Name y py], [a, b] => decide (x ≠ y) && decide (C.sc.names.lookup x = some .local) && decide (C.sc.names.lookup y = some .local) && (py.line == px.line) && notStar a && notStar b && !([a, b].all (foldedForSure 8)) && !([a, b].all (constantsAlone 8))
  | [.Name x px, .Name y py, .Name z pz], [a, b, c] => decide (x ≠ y) && decide (x ≠ z) && decide (y ≠ z) && decide (C.sc.names.lookup x = some .local) && decide (C.sc.names.lookup y = some .local) && decide (C.sc.names.lookup z = some .local) && (py.line == px.line) && (pz.line == px.line) && notStar a && notStar b && notStar c && !([a, b, c].all (foldedForSure 8)) && !([a, b, c].all (constantsAlone 8))
  | _, _ => false
/-- no road of its own for these targets -/
def notLoc (C : SC) : Expr → Bool
  | .Name x _ => (match C.sc.names.lookup x with
    | some .local => false
    | _ => true)
  | _ => true
def plainTup (C : SC) (ts : List Expr) : Expr → Bool
  | .Tuple vs _ _ => !(ts.length == 2 || ts.length == 3) || vs.length != ts.length || vs.all (foldedForSure 8) || (ts.any (notLoc C) && plainArgs vs)
  | _ => true
noncomputable def asgAny (C : SC) (targets : List Expr) (value : Expr) (fv fo fi : Ev → M D) : Ev → S := match targets with
  | [.Name x p] => (match slotOf C x with
    | some i => asgS (.one i) fv
    | none => stuckS)
  | [.Tuple ts k tp] => (match tgOf C (.Tuple ts k tp) with
    | some t => if noComp value = true then (match value with
      | .Tuple vs _ _ => if plainTup C ts value = true then asgS t fv else if (C.cool && parOk C ts vs) = true then asgS t fv else stuckS
      | _ => asgS t fv) else stuckS
    | none => stuckS)
  | [.Subscript o i p] => if (noComp value && plainIx i) = true then setS fv fo fi else stuckS
  | _ => stuckS
noncomputable def evTO (C : SC) : List Expr → Ev → M D
  | [.Subscript o _ _] => ev C o
  | _ => fun _ => M.stuck
noncomputable def evTI (C : SC) : List Expr → Ev → M D
  | [.Subscript _ i _] => ev C i
  | _ => fun _ => M.stuck
noncomputable def augAny (C : SC) (tg : Expr) (op : Operator) (fv : Ev → M D) : Ev → S := match tg with
  | .Name x _ => (match slotOf C x with
    | some i => augS op i fv
    | none => stuckS)
  | _ => stuckS
noncomputable def forAny (C : SC) (tg iter : Expr) (orelse : List Stmt) (g : Ev → S) : Ev → S := match orelse with
  | [] => (match tgOf C tg with
    | some t => if (C.cool && noFold iter) = true then loopS t (srcM C tg iter (ev C iter) (evArgs C iter)) g else stuckS
    | none => stuckS)
  | _ => stuckS
/-! ## errors -/
def D.lf? : D → Option Lf
  | .non => some .non
  | .bl b => some (.bl b)
  | .int i => some (.int i)
  | .str x => some (.str x)
  | _ => none
def raise1 (x f : Str) : D → Ev → S := fun d e hs => match d.lf? with
  | some l => some (.exc ⟨x, [(f, l)]⟩ e, hs)
  | none => none
def raise0 (x : Str) : Ev → S := fun e hs => some (.exc ⟨x, []⟩ e, hs)
def raiseAny (C : SC) (f1 : Ev → M D) : Option Expr → Option Expr → Ev → S
  | some (.Call (.Name x _) args [] _), none => if (C.cool && isGlobal C x) = true then (match C.G x, args with
    | some (.err none), [] => raise0 x
    | some (.err (some f)), [a] => if notStar a = true then exprS f1 (raise1 x f) else stuckS
    | _, _ => stuckS) else stuckS
  | _, _ => stuckS
open Classical in
noncomputable def tryK (run : Tk → Option (Fl × Hs)) : Option (Fl × Hs) := if h : ∃ r, ∀ t, run t = some r then some (Classical.choose h) else none
def dropV (o : Option Nat) (e : Ev) : Ev := match o with
  | none => e
  | some i => e.set i none
def putV (o : Option Nat) (d : D) (e : Ev) : Ev := match o with
  | none => e
  | some i => e.set i (some d)
def stripF (o : Option Nat) : Fl → Option Fl
  | .nx e => some (.nx (dropV o e))
  | .ret d => some (.ret d)
  | .bk e => some (.bk (dropV o e))
  | .ct e => some (.ct (dropV o e))
  | .exc .. => none
noncomputable def suiteK (o : Option Nat) (x : Ex) (g : Tk → Ev → S) : Ev → S := fun e hs => tryK fun t => match g t (putV o (.exv t x.cls x.arg) e) hs with
  | some (r, h) => (stripF o r).map (·, h)
  | none => none
def hitC (C : SC) (c y : Str) : Option Bool := match C.G y with
  | some .bi => if y = "ValueError" ∨ y = "Exception" then some true else none
  | _ => hitE C c y
def SC.at (C : SC) (t : Tk) : SC := { C with hot := some t }
def okSlot (C : SC) : Option Str → Option (Option Nat)
  | none => some none
  | some n => if C.sc.names.lookup n = some .local then (findIx C.N n).map some else none
def clsOk (C : SC) (y : Str) : Bool := isGlobal C y && (match C.G y with
  | some (.err _) => true
  | some .base => true
  | some .bi => y == ("ValueError" : Str) || y == ("Exception" : Str)
  | _ => false)
def hdOk (C : SC) : ExceptHandler → Bool
  | .ExceptHandler (some (.Name y _)) nm (_ :: _) _ => clsOk C y && (okSlot C nm).isSome
  | _ => false
/-- a clause, as the mirrors have it -/
noncomputable def hdM (b : Bool) (o : Option Nat) (x : Ex) (g : Tk → Ev → S) (rest : Ev → S) : Ev → S := match b with
  | true => suiteK o x g
  | false => rest
noncomputable def hdAny (C : SC) (x : Ex) (ty : Option Expr) (nm : Option Str) (g : Tk → Ev → S) (rest : Ev → S) : Ev → S := match ty, okSlot C nm with
  | some (.Name y _), some o => (match hitC C x.cls y with
    | some b => hdM b o x g rest
    | none => stuckS)
  | _, _ => stuckS
def tryS (g : Ev → S) (k : Ex → Ev → S) : Ev → S := fun e hs => match g e hs with
  | some (.exc x e1, h1) => k x e1 h1
  | r => r
mutual
noncomputable def evS (C : SC) : Stmt → Ev → S
  | .Expr v pos => if noComp v = true then dropS (ev C v) else stuckS
  | .Assign targets value pos => asgAny C targets value (ev C value) (evTO C targets) (evTI C targets)
  | .AugAssign tg op v pos => augAny C tg op (ev C v)
  | .For tg iter body orelse pos => forAny C tg iter orelse (evB C body)
  | .While t body orelse pos => (match orelse with
    | [] => whileS (evT C t) (evB C body)
    | _ :: _ => stuckS)
  | .If t a b pos => ifS (evT C t) (evB C a) (evB C b)
  | .Return v pos => (match v with
    | some e => retS (ev C e)
    | none => fun _ hs => some (.ret .non, hs))
  | .Raise e c _ => raiseAny C (match e with
    | some x => evFst C x
    | none => fun _ => M.stuck) e c
  | .Try body hds orelse fin _ => (match orelse, fin with
    | [], [] => if (C.cool && !C.inb && !hds.isEmpty && hds.all (hdOk C)) = true then tryS (evB C body) (evH C hds) else stuckS
    | _, _ => stuckS)
  | .Pass _ => nextS
  | .Break _ => fun e hs => some (.bk e, hs)
  | .Continue _ => fun e hs => some (.ct e, hs)
  | _ => stuckS
noncomputable def evB (C : SC) : List Stmt → Ev → S
  | [] => nextS
  | s :: r => seqS (evS C s) (evB C r)
noncomputable def evH (C : SC) : List ExceptHandler → Ex → Ev → S
  | [] => fun x e hs => some (.exc x e, hs)
  | .ExceptHandler ty nm suite _ :: r => fun x => hdAny C x ty nm (fun t => evB (C.at t) suite) (evH C r x)
end
section
variable {C : SC} {X : Cx} {W : WX}
theorem swapped_not {ts : List Expr} {k : Nat} {p : Pos} {e : Expr} {env : Env} (h : ∀ vs k p, e ≠ .Tuple vs k p) : swappedStores [.Tuple ts k p] e env = pure none := by
  cases e <;> first | rfl | exact absurd rfl (h _ _ _)
theorem blk_fn {env : Env} (hk : env.scope.kind = .function) : env.blockKind = .function := by unfold Env.blockKind; rw [hk]; rfl
theorem any_star : ∀ {vs : List Expr}, plainArgs vs = true → (vs.any fun | .Starred .. => true | _ => false) = false
  | [], _ => rfl
  | e :: es, h => by
    simp only [plainArgs, Bool.and_eq_true] at h
    rw [List.any_cons, any_star h.2]
    cases e <;> first | rfl | (simp [notStar] at h)
def nm (env : Env) (l : Nat) : Expr → Option Str
  | .Name id pos => if env.kindOf id == some .local && pos.line == l then some id else none
  | _ => none
theorem nm_yes {env : Env} {l : Nat} {x : Str} {p : Pos} (hx : env.scope.names.lookup x = some .local) (hl : (p.line == l) = true) : nm env l (.Name x p) = some x := by
  have kx : env.kindOf x = some .local := hx
  unfold nm
  simp only [kx, hl]
  rfl
theorem swapped_plain {ts vs : List Expr} {k k2 : Nat} {p p2 : Pos} {env : Env} (hk : env.scope.kind = .function) (hsc : env.scope = C.sc) (h : plainTup C ts (.Tuple vs k2 p2) = true) : swappedStores [.Tuple ts k p] (.Tuple vs k2 p2) env = pure none := by
  unfold plainTup at h
  simp only [Bool.or_eq_true] at h
  unfold swappedStores
  simp only
  generalize hg : List.filterMap _ ts = ns
  split
  · rfl
  · rename_i h1
    split
    · rfl
    · split
      · rfl
      · rename_i h3
        rcases h with ((h | h) | h) | h
        · exact absurd (by rw [h, Bool.true_or, Bool.true_or]) h1
        · exact absurd (by rw [h, Bool.or_true, Bool.true_or]) h1
        · rw [if_pos h]
        · rw [Bool.and_eq_true] at h
          obtain ⟨t, ht, hn⟩ := List.any_eq_true.mp h.1
          have lt : ns.length < ts.length := by
            rw [← hg, List.length_filterMap_lt_length_iff_exists]
            refine ⟨t, ht, ?_⟩
            cases t <;> try rfl
            rename_i x px
            have kx : (env.kindOf x == some .local) = false := by
              show (env.scope.names.lookup x == some .local) = false
              rw [hsc]
              unfold notLoc at hn
              simp only at hn
              cases e : C.sc.names.lookup x with
              | none => rfl
              | some q => rw [e] at hn; cases q <;> first | rfl | cases hn
            simp only [kx, Bool.false_and]
            rfl
          exfalso
          apply h3
          have : (ns.length != ts.length) = true := by simpa using Nat.ne_of_lt lt
          rw [this, Bool.true_or]
/-- names of one line, all of them locals, no two alike -/
theorem swapped_names {ts vs : List Expr} {p p2 : Pos} {k k2 : Nat} {env : Env} {names : List Str} (hk : env.scope.kind = .function) (h0 : (ts.length == 2 || ts.length == 3) = true) (hl : vs.length = ts.length) (hp : plainArgs vs = true)
    (hn : (ts.filterMap (nm env ((ts.head?.map (·.pos.line)).getD 0))) = names) (h3 : (names.length != ts.length || names.eraseDups.length != names.length) = false) (h1 : vs.all (foldedForSure 8) = false) (h2 : vs.all (constantsAlone 8) = false) :
    swappedStores [.Tuple ts k p] (.Tuple vs k2 p2) env = pure (some names) := by
  unfold swappedStores
  simp only
  generalize hg : List.filterMap _ ts = ns
  have e : ns = names := by rw [← hn, ← hg]; rfl
  subst e
  split
  · rename_i h
    rw [h0, blk_fn hk, hl] at h
    simp at h
  · split
    · rename_i h
      exact absurd (h.symm.trans (any_star hp)) (by decide)
    · split
      · rename_i h
        rw [h3] at h; cases h
      · rw [if_neg (by rw [h1]; decide), if_neg (by rw [h2]; decide)]
theorem swapped_two {x y : Str} {px py p p2 : Pos} {a b : Expr} {k k2 : Nat} {env : Env} (hk : env.scope.kind = .function) (hxy : x ≠ y) (hx : env.scope.names.lookup x = some .local) (hy : env.scope.names.lookup y = some .local) (hl : (py.line == px.line) = true)
    (ha : plainArgs [a, b] = true) (h1 : [a, b].all (foldedForSure 8) = false) (h2 : [a, b].all (constantsAlone 8) = false) :
    swappedStores [.Tuple [.Name x px, .Name y py] k p] (.Tuple [a, b] k2 p2) env = pure (some [x, y]) := by
  refine swapped_names hk rfl rfl ha ?_ ?_ h1 h2
  · exact (List.filterMap_cons_some (b := x) (nm_yes hx (beq_self_eq_true _))).trans (congrArg (x :: ·) ((List.filterMap_cons_some (b := y) (nm_yes hy hl)).trans rfl))
  · have : (y == x) = false := by simpa using fun e => hxy e.symm
    simp [List.eraseDups_cons, this]
theorem swapped_three {x y z : Str} {px py pz p p2 : Pos} {a b c : Expr} {k k2 : Nat} {env : Env} (hk : env.scope.kind = .function) (hxy : x ≠ y) (hxz : x ≠ z) (hyz : y ≠ z) (hx : env.scope.names.lookup x = some .local) (hy : env.scope.names.lookup y = some .local) (hz : env.scope.names.lookup z = some .local)
    (hl : (py.line == px.line) = true) (hl2 : (pz.line == px.line) = true) (ha : plainArgs [a, b, c] = true) (h1 : [a, b, c].all (foldedForSure 8) = false) (h2 : [a, b, c].all (constantsAlone 8) = false) :
    swappedStores [.Tuple [.Name x px, .Name y py, .Name z pz] k p] (.Tuple [a, b, c] k2 p2) env = pure (some [x, y, z]) := by
  refine swapped_names hk rfl rfl ha ?_ ?_ h1 h2
  · exact (List.filterMap_cons_some (b := x) (nm_yes hx (beq_self_eq_true _))).trans (congrArg (x :: ·) ((List.filterMap_cons_some (b := y) (nm_yes hy hl)).trans (congrArg (y :: ·) ((List.filterMap_cons_some (b := z) (nm_yes hz hl2)).trans rfl))))
  · have e1 : (y == x) = false := by simpa using fun e => hxy e.symm
    have e2 : (z == x) = false := by simpa using fun e => hxz e.symm
    have e3 : (z == y) = false := by simpa using fun e => hyz e.symm
    simp [List.eraseDups_cons, e1, e2, e3]

/-! ## the little machine is right: statements -/
theorem ds_stuck {s : Stmt} : DS X W s stuckS := ds_no
theorem asg_stuck {s : Stmt} {t : Tg} : DS X W s (asgS t fun _ => M.stuck) := ds_no
theorem slot_ne {N : List Str} {x y : Str} {i j : Nat} (h : x ≠ y) (hi : N[i]? = some x) (hj : N[j]? = some y) : i ≠ j := fun e => h (by subst e; rw [hi] at hj; exact Option.some.inj hj)
theorem tA_mono {f : Ev → M (List D)} {σ : L2.St} {H : Hp} {Q Q' : List V → Hp → Prop} (h : tA X.K X.mg W f σ H Q) (hq : ∀ vs H1, Q vs H1 → Q' vs H1) : tA X.K X.mg W f σ H Q' := by
  obtain ⟨m, ev, hs, rs, hr, q⟩ := h
  exact ⟨m, ev, hs, rs, hr, q.mono fun ds m1 hs1 H1 e1 hr1 q1 vs rvs => hq vs H1 (q1 vs rvs)⟩
theorem tupM_some {f : Ev → M (List D)} {is : List Nat} {σ : L2.St} {H : Hp} {D : Ends} (h : tS X.K X.mg W (asgS (.many is) (tupM f)) D σ H) :
    tA X.K X.mg W f σ H fun vs H1 => is.length = vs.length ∧ D.nx (setsV σ is vs) H1 := by
  obtain ⟨m, ev, hs, rs, hr, q⟩ := h
  refine ⟨m, ev, hs, rs, hr, (q.expr rs).bind.mono fun ds m1 hs1 H1 e1 hr1 q1 vs rvs => ?_⟩
  split at q1
  · have q2 := q1.pure hr1
    by_cases hl : is.length = ds.length
    · simp only [asg, if_pos hl] at q2
      exact ⟨by rw [← rvs.length]; exact hl, q2 m1 H1 _ .refl hr1 ((rs.mono e1).sets rvs)⟩
    · simp only [asg, if_neg hl] at q2
      exact q2.elim
  · exact q1.elim
theorem par_ok (h : XOk C X W) (hcl : C.cool = true) {ts vs : List Expr} {k k2 : Nat} {tp p2 pos : Pos} {t : Tg} {fs : Ev → M (List D)} (ht : tgOf C (.Tuple ts k tp) = some t) (hp : parOk C ts vs = true) (ha : plainArgs vs = true → DA X W vs fs) : DS X W (.Assign [.Tuple ts k tp] (.Tuple vs k2 p2) pos) (asgS t (tupM fs)) := by
  unfold parOk at hp
  split at hp
  · rename_i x px y py a b
    simp only [Bool.and_eq_true, decide_eq_true_eq, Bool.not_eq_true'] at hp
    obtain ⟨⟨⟨⟨⟨⟨⟨h1, h2⟩, h3⟩, h4⟩, h5⟩, h6⟩, h7⟩, h8⟩ := hp
    have hpl : plainArgs [a, b] = true := by simp [plainArgs, h5, h6]
    simp only [tgOf] at ht
    rw [if_pos (by rw [hcl]; rfl)] at ht
    obtain ⟨is, ei, rfl⟩ := Option.map_eq_some_iff.mp ht
    cases e1 : slotOf C x with
    | none => simp [slotsOf, e1] at ei
    | some i =>
      cases e2 : slotOf C y with
      | none => simp [slotsOf, e1, e2] at ei
      | some j =>
        simp only [slotsOf, e1, e2] at ei
        cases ei
        rw [← h.sc] at h2 h3
        obtain ⟨n1, _, _⟩ := slot_ok h e1
        obtain ⟨n2, _, _⟩ := slot_ok h e2
        refine (ps_par (h.calm hcl) h.nd n1 n2 (slot_ne h1 n1 n2) h2 h3 (ha hpl) (swapped_two h.kd h1 h2 h3 h4 hpl h7 h8)).imp fun D σ H q => tA_mono (tupM_some q) fun vs H1 q => ?_
        match vs, q with
        | [v, w], ⟨_, q⟩ => exact ⟨v, w, rfl, q⟩
        | [], ⟨q, _⟩ => simp at q
        | [_], ⟨q, _⟩ => simp at q
        | _ :: _ :: _ :: _, ⟨q, _⟩ => simp at q
  · rename_i x px y py z pz a b c
    simp only [Bool.and_eq_true, decide_eq_true_eq, Bool.not_eq_true'] at hp
    obtain ⟨⟨⟨⟨⟨⟨⟨⟨⟨⟨⟨⟨h1, h2⟩, h3⟩, g1⟩, g2⟩, g3⟩, h4⟩, h4'⟩, h5⟩, h6⟩, h6'⟩, h7⟩, h8⟩ := hp
    have hpl : plainArgs [a, b, c] = true := by simp [plainArgs, h5, h6, h6']
    simp only [tgOf] at ht
    rw [if_pos (by rw [hcl]; rfl)] at ht
    obtain ⟨is, ei, rfl⟩ := Option.map_eq_some_iff.mp ht
    cases e1 : slotOf C x with
    | none => simp [slotsOf, e1] at ei
    | some i =>
      cases e2 : slotOf C y with
      | none => simp [slotsOf, e1, e2] at ei
      | some j =>
        cases e3 : slotOf C z with
        | none => simp [slotsOf, e1, e2, e3] at ei
        | some l =>
          simp only [slotsOf, e1, e2, e3] at ei
          cases ei
          rw [← h.sc] at g1 g2 g3
          obtain ⟨n1, _, _⟩ := slot_ok h e1
          obtain ⟨n2, _, _⟩ := slot_ok h e2
          obtain ⟨n3, _, _⟩ := slot_ok h e3
          refine (ps_par3 (h.calm hcl) h.nd n1 n2 n3 (slot_ne h1 n1 n2) (slot_ne h2 n1 n3) (slot_ne h3 n2 n3) g1 g2 g3 (ha hpl) (swapped_three h.kd h1 h2 h3 g1 g2 g3 h4 h4' hpl h7 h8)).imp fun D σ H q => tA_mono (tupM_some q) fun vs H1 q => ?_
          match vs, q with
          | [u, v, w], ⟨_, q⟩ => exact ⟨u, v, w, rfl, q⟩
          | [], ⟨q, _⟩ => simp at q
          | [_], ⟨q, _⟩ => simp at q
          | [_, _], ⟨q, _⟩ => simp at q
          | _ :: _ :: _ :: _ :: _, ⟨q, _⟩ => simp at q
  · cases hp
theorem sw_eq {elt : Expr} {gs : List Comprehension} {scope : Scope} {pos py : Pos} {y : Str} {l : Nat} {env : Env} : swapsWith (.ListComp elt gs scope pos) (some (.Name y py)) l env = pure true ∨ swapsWith (.ListComp elt gs scope pos) (some (.Name y py)) l env = pure false := by
  unfold swapsWith
  simp only
  generalize (_ && _ : Bool) = b
  cases b
  · exact .inr rfl
  · exact .inl rfl
theorem sw_loc {elt : Expr} {gs : List Comprehension} {scope : Scope} {pos py : Pos} {y : Str} {l : Nat} {env : Env} (h : env.scope.names.lookup y ≠ some .local) : swapsWith (.ListComp elt gs scope pos) (some (.Name y py)) l env = pure false := by
  have ky : (env.kindOf y == some .local) = false := by
    show (env.scope.names.lookup y == some .local) = false
    cases e : env.scope.names.lookup y with
    | none => rfl
    | some k => rw [e] at h; cases k <;> first | rfl | exact absurd rfl h
  unfold swapsWith
  simp only [ky, Bool.and_false, Bool.false_and]
theorem compSet_ok (h : XOk C X W) {elt : Expr} {gens : List Comprehension} {scope : Scope} {pos spos py : Pos} {y : Str} {i : Nat} {fi fe : Ev → M D} {fs : Ev → M (List D)} {ft : Ev → M Bool} (hy : slotOf C y = some i)
    (hi : ∀ tg iter ifs k r, gens = ⟨tg, iter, ifs, k⟩ :: r → DE X W iter fi) (hs : ∀ tg iter ifs k r, gens = ⟨tg, iter, ifs, k⟩ :: r → ∀ g as ks p, iter = .Call g as ks p → plainArgs as = true → DA X W as fs)
    (ht : ∀ {X : Cx} tg iter ifs k r, gens = ⟨tg, iter, ifs, k⟩ :: r → XOk (C.blk scope) X WF → DTs X WF ifs ft) (he : ∀ {X : Cx}, XOk (C.blk scope) X WF → DE X WF elt fe)
    {fi1 : Ev → M D} {fs1 : Ev → M (List D)} {ft1 : Ev → M Bool} (hi1 : ∀ {X : Cx} g tg iter ifs k r, gens = g :: ⟨tg, iter, ifs, k⟩ :: r → XOk (C.blk scope) X WF → DE X WF iter fi1) (hs1 : ∀ {X : Cx} g tg iter ifs k r, gens = g :: ⟨tg, iter, ifs, k⟩ :: r → XOk (C.blk scope) X WF → ∀ g as ks p, iter = .Call g as ks p → plainArgs as = true → DA X WF as fs1)
    (ht1 : ∀ {X : Cx} g tg iter ifs k r, gens = g :: ⟨tg, iter, ifs, k⟩ :: r → XOk (C.blk scope) X WF → DTs X WF ifs ft1) :
    DS X W (.Assign [.Name y py] (.ListComp elt gens scope pos) spos) (asgS (.one i) (compAny C gens scope fi fs ft fi1 fs1 ft1 fe)) := by
  obtain ⟨n1, n2, n3⟩ := slot_ok h hy
  have no : swapsWith (.ListComp elt gens scope pos) (some (.Name y py)) spos.line X.env = pure false → DS X W (.Assign [.Name y py] (.ListComp elt gens scope pos) spos) (asgS (.one i) (compAny C gens scope fi fs ft fi1 fs1 ft1 fe)) :=
    fun sw => ds_asg (compAny_ok h hi hs ht he hi1 hs1 ht1) (pg_one (pgName_ok h hy)) sw rfl rfl
  by_cases hl : X.env.scope.names.lookup y = some .local
  · rcases sw_eq (elt := elt) (gs := gens) (scope := scope) (pos := pos) (py := py) (y := y) (l := spos.line) (env := X.env) with sw | sw
    · unfold compAny
      split
      · rename_i tg iter ifs
        split
        · rename_i t et
          split
          · rename_i hc
            simp only [Bool.and_eq_true] at hc
            obtain ⟨⟨⟨h0, h1⟩, h2⟩, h3⟩ := hc
            have ok : BlkOk X.N X.env.scope scope (ownOf C.N scope.names) := by rw [h.N, h.sc]; exact blkOk_by h1
            have hb := fun s H Cc cl fp => h.blk h0 ok.kind s H Cc cl fp
            refine ds_setLc (h.calm h0) h.nd n1 hl sw (srcM_ok h (hi _ _ _ _ _ rfl) (hs _ _ _ _ _ rfl)) ok (fun i hi => ?_) (fun s H Cc cl fp => tgOf_ok (hb s H Cc cl fp) et) (fun s H Cc cl fp => ht _ _ _ _ _ rfl (hb s H Cc cl fp)) (fun s H Cc cl fp => he (hb s H Cc cl fp)) (plain_fold h3)
            exact of_decide_eq_true (List.all_eq_true.mp h2 i hi)
          · exact asg_stuck
        · exact asg_stuck
      · rename_i tg iter ifs tg1 iter1 ifs1
        split
        · rename_i t t1 et et1
          split
          · rename_i hc
            simp only [Bool.and_eq_true] at hc
            obtain ⟨⟨⟨⟨⟨h0, h1⟩, h2⟩, h2'⟩, h3⟩, h3'⟩ := hc
            have ok : BlkOk X.N X.env.scope scope (ownOf C.N scope.names) := by rw [h.N, h.sc]; exact blkOk_by h1
            have hb := fun s H Cc cl fp => h.blk h0 ok.kind s H Cc cl fp
            refine ds_setLc2 (h.calm h0) h.nd n1 hl sw (srcM_ok h (hi _ _ _ _ _ rfl) (hs _ _ _ _ _ rfl)) ok (fun i hi => of_decide_eq_true (List.all_eq_true.mp h2 i hi)) (fun i hi => of_decide_eq_true (List.all_eq_true.mp h2' i hi)) (fun s H Cc cl fp => tgOf_ok (hb s H Cc cl fp) et) (fun s H Cc cl fp => ht _ _ _ _ _ rfl (hb s H Cc cl fp))
              (fun s H Cc cl fp => srcM_ok (hb s H Cc cl fp) (hi1 _ _ _ _ _ _ rfl (hb s H Cc cl fp)) (hs1 _ _ _ _ _ _ rfl (hb s H Cc cl fp))) (fun s H Cc cl fp => tgOf_ok (hb s H Cc cl fp) et1) (fun s H Cc cl fp => ht1 _ _ _ _ _ _ rfl (hb s H Cc cl fp)) (fun s H Cc cl fp => he (hb s H Cc cl fp)) (plain_fold h3) (fun env x => plain_fold h3' x)
          · exact asg_stuck
        · exact asg_stuck
      · exact asg_stuck
    · exact no sw
  · exact no (sw_loc hl)
theorem asgAny_ok (h : XOk C X W) {targets : List Expr} {value : Expr} {pos : Pos} {fv fo fi : Ev → M D} (hv : DE X W value fv) (htup : ∀ vs k p, value = .Tuple vs k p → plainArgs vs = true → ∃ fs, DA X W vs fs ∧ fv = tupM fs)
    (hlc : ∀ y py i, noComp value = false → slotOf C y = some i → DS X W (.Assign [.Name y py] value pos) (asgS (.one i) fv)) (ho : ∀ o i p, targets = [.Subscript o i p] → DE X W o fo ∧ DE X W i fi) :
    DS X W (.Assign targets value pos) (asgAny C targets value fv fo fi) := by
  unfold asgAny
  split
  · split
    · rename_i i ei
      by_cases hc : noComp value = true
      · exact ds_asg hv (pg_one (pgName_ok h ei)) (by simp only [swapsWithSole]; exact swaps_no hc) rfl rfl
      · exact hlc _ _ _ (by simpa using hc) ei
    · exact ds_stuck
  · rename_i ts k tp
    split
    · rename_i t et
      split
      · rename_i hn
        split
        · rename_i vs k2 p2
          split
          · rename_i hp
            exact ds_asg hv (tgOf_ok h et) rfl (swapped_plain h.kd h.sc hp) rfl
          · split
            · rename_i hp
              rw [Bool.and_eq_true] at hp
              obtain ⟨hcl, hp⟩ := hp
              have hpl : plainArgs vs = true := by
                unfold parOk at hp
                split at hp
                · simp only [Bool.and_eq_true] at hp; simp [plainArgs, hp.1.1.1.2, hp.1.1.2]
                · simp only [Bool.and_eq_true] at hp; simp [plainArgs, hp.1.1.1.1.2, hp.1.1.1.2, hp.1.1.2]
                · cases hp
              obtain ⟨fs, q1, rfl⟩ := htup _ _ _ rfl hpl
              exact par_ok h hcl et hp fun _ => q1
            · exact ds_stuck
        · rename_i hnt
          exact ds_asg hv (tgOf_ok h et) (by simp only [swapsWithSole]; exact swaps_no hn) (swapped_not hnt) rfl
      · exact ds_stuck
    · exact ds_stuck
  · split
    · rename_i hp
      rw [Bool.and_eq_true] at hp
      obtain ⟨q1, q2⟩ := ho _ _ _ rfl
      exact ds_setIx hv q1 q2 hp.2 (by simp only [swapsWithSole]; exact swaps_no hp.1)
    · exact ds_stuck
  · exact ds_stuck
theorem augAny_ok (h : XOk C X W) {tg : Expr} {op : Operator} {v : Expr} {pos : Pos} {fv : Ev → M D} (hv : DE X W v fv) : DS X W (.AugAssign tg op v pos) (augAny C tg op fv) := by
  unfold augAny
  split
  · split
    · rename_i i ei
      obtain ⟨n1, n2, n3⟩ := slot_ok h ei
      exact ds_aug hv fun he ho => ps_aug h.nd n1 n2 he ho n3
    · exact ds_stuck
  · exact ds_stuck
theorem forAny_ok (h : XOk C X W) {tg iter : Expr} {body orelse : List Stmt} {pos : Pos} {g : Ev → S} (hi : DE X W iter (ev C iter)) (hs : ∀ g as ks p, iter = .Call g as ks p → plainArgs as = true → DA X W as (evArgs C iter)) (hb : DSs X W body g) : DS X W (.For tg iter body orelse pos) (forAny C tg iter orelse g) := by
  unfold forAny
  split
  · split
    · rename_i t et
      split
      · rename_i hn
        rw [Bool.and_eq_true] at hn
        exact ds_for h.po (h.calm hn.1) (srcM_ok h hi hs) (tgOf_ok h et) hb (plain_fold hn.2)
      · exact ds_stuck
    · exact ds_stuck
  · exact ds_stuck
theorem errM_fld {E : Addr} {f : Str} (F : ErrC X.prog X.K E (some f)) : PySem.W.findIn X.K (.ref E) f = some none := by
  obtain ⟨fI, cc, cda, qual, txt, file, tf, params, body, scope, dV, kV, doc, pm, ct, oc, ccl, cl, an, od, cdd, cld, osl, ccs, csl, vs, cd, ar, p0, p1, p2, p3, p4, p5, j, ps, iC, tI, lk, hcd, lcc, lcd, hvs, hfile, hsub, hsup, hVE, hsn, hop, hbody, hline, hps, hb, hp, har, s1, s2, s3, s4, s5⟩ := F.kn
  exact (s4 f rfl).2.2.2
theorem lf_v {K : PySem.W.Frag} {mg : Str → Option Value} {m : List Addr} {H : Hp} {d : D} {l : Lf} {v : V} (h : d.lf? = some l) (r : RV K mg m H d v) : v = l.v := by
  cases d <;> simp only [D.lf?] at h <;> cases h <;> simpa [RV, Lf.v] using r
theorem raise_ok (h : XOk C X W) {e c : Option Expr} {pos : Pos} {f1 : Ev → M D} (h1 : ∀ g as ks q, e = some (.Call g as ks q) → ∀ a r, as = a :: r → DE X W a f1) : DS X W (.Raise e c pos) (raiseAny C f1 e c) := by
  unfold raiseAny
  split
  · rename_i x p args q
    split
    · rename_i hc
      rw [Bool.and_eq_true] at hc
      obtain ⟨hg, hdb, _⟩ := glob_of h hc.2
      have hcalm := h.calm hc.1
      split
      · rename_i ey
        obtain ⟨hr, E, hm, F, hM⟩ := h.gl x _ ey
        exact (ps_raise hcalm h.tk (pmk_err0 F (hr hcalm) hg hm hdb)).imp fun D σ H ⟨m, ev, hs, rs, hrr, q⟩ => q m H σ _ _ .refl hrr rs ⟨E, hm, rfl, hM, (fun p hp => by cases hp), .inl ⟨rfl, rfl⟩⟩
      · rename_i f a ey
        split
        · rename_i hst
          obtain ⟨hr, E, hm, F, hM⟩ := h.gl x _ ey
          refine (ps_raise hcalm h.tk (pmk_err1 F (hr hcalm) (h1 _ _ _ _ rfl _ _ rfl) hg hm hdb (star_cons hst))).imp fun D σ H ⟨m, ev, hs, rs, hrr, q⟩ => ⟨m, ev, hs, rs, hrr, (q.expr rs).mono fun d m1 hs1 H1 e1 hr1 q1 v rv dd nd => ?_⟩
          unfold raise1 at q1
          cases el : d.lf? with
          | none => simp only [el] at q1; exact q1.elim
          | some l =>
            simp only [el] at q1
            obtain rfl := lf_v el rv
            refine q1 m1 _ σ _ _ (Ext.upd_new nd) (hr1.upd_new nd) ((rs.mono e1).mono (Ext.upd_new nd)) ⟨E, hm, rfl, hM, fun p hp => ?_, .inr ⟨dd, rfl, ?_⟩⟩
            · obtain rfl : p = (f, l) := by simpa using hp
              exact errM_fld F
            · exact upd_same
        · exact ds_stuck
      · exact ds_stuck
    · exact ds_stuck
  · exact ds_stuck
theorem xok_tr (h : XOk C X W) (hcl : C.cool = true) {pn : List (Addr × Obj)} {xe : Value → Shared → Prop} {W' : WX} (tk : Takes (X.tr pn xe) W') (po : PassesOwn (model X.prog X.w) X.A X.env xe) : XOk C (X.tr pn xe) W' where
  N := h.N
  sc := h.sc
  nd := h.nd
  calm := h.calm
  st := h.st
  hot := fun t e => by
    unfold SC.cool at hcl
    rw [e] at hcl
    cases hcl
  po := po
  tk := tk
  u := h.u
  gd := h.gd
  kd := h.kd
  fn := h.fn
  gl := fun x g e => by
    have q := h.gl x g e
    cases g with
    | val d => exact q
    | fn n f => exact q
    | bi => exact q
    | err => exact q
    | base => exact q
theorem xok_suite (h : XOk C X W) {t : Tk} {oe : Obj} {pn : List (Addr × Obj)} (hz : Zc t.cls t.d oe) (hf : ∃ vs, oe.data = .fields vs) : XOk (C.at t) (X.suite t.a ((t.a, oe) :: pn)) WF where
  N := h.N
  sc := h.sc
  nd := h.nd
  calm := fun e => by
    have e' : (C.at t).cool = true := e
    cases e'
  st := h.st
  hot := fun t' e => by
    have e' : some t = some t' := e
    cases e'
    exact ⟨oe, List.mem_cons_self, hz, hf⟩
  po := PassesOwn.never
  tk := takes_none5
  u := h.u
  gd := h.gd
  kd := h.kd
  fn := h.fn
  gl := fun x g e => by
    have q := h.gl x g e
    cases g with
    | val d => exact q
    | fn n f =>
      obtain ⟨k, g, fd, ps, F, hr, r⟩ := q
      exact ⟨k, g, fd, ps, F, fun z => absurd z (by simp), r⟩
    | bi => exact q
    | err => exact ⟨fun z => absurd z (by simp), q.2⟩
    | base => exact q
theorem RS.dropV {K : PySem.W.Frag} {mg : Str → Option Value} {m : List Addr} {H : Hp} {e : Ev} {σ : L2.St} (h : RS K mg m H e σ) (o : Option Nat) : RS K mg m H (DL.dropV o e) (dropE o σ) := by
  cases o with
  | none => exact h
  | some i =>
    refine ⟨by show (e.set i none).length = (σ.set i none).length; simp [h.len], fun j d hj => ?_⟩
    have hj' : (e.set i none)[j]? = some (some d) := hj
    by_cases q : j = i
    · subst q
      by_cases hlt : j < e.length
      · rw [List.getElem?_set_self hlt] at hj'; cases hj'
      · rw [List.getElem?_eq_none (by simpa using hlt)] at hj'; cases hj'
    · rw [List.getElem?_set_ne (Ne.symm q)] at hj'
      obtain ⟨v, h1, h2⟩ := h.at_ j d hj'
      refine ⟨v, ?_, h2⟩
      show (σ.set i none)[j]? = _
      rw [List.getElem?_set_ne (Ne.symm q)]
      exact h1
theorem RS.putV {K : PySem.W.Frag} {mg : Str → Option Value} {m : List Addr} {H : Hp} {e : Ev} {σ : L2.St} {d : D} {a : Addr} (h : RS K mg m H e σ) (o : Option Nat) (r : RV K mg m H d (.ref a)) : RS K mg m H (DL.putV o d e) (putE o a σ) := by
  cases o with
  | none => exact h
  | some i => exact h.set r i
theorem tryK_get {run : Tk → Option (Fl × Hs)} {r : Fl × Hs} (h : tryK run = some r) (t : Tk) : run t = some r := by
  unfold tryK at h
  split at h
  · rename_i q
    cases h
    exact Classical.choose_spec q t
  · cases h
/-- the suite, with the error's name or without -/
theorem suite_ok {K : PySem.W.Frag} {mg : Str → Option Value} {m : List Addr} {H : Hp} {ev : Ev} {σ : L2.St} {hs : Hs} {o : Option Nat} {x : Ex} {g : Tk → Ev → S} {D : Ends} {cls : Value} {d : Option Addr} {a : Addr} (rs : RS K mg m H ev σ) (hr : HR K mg m hs H) (rx : RX K mg H x cls d)
    (q : AfterS K mg W m H (suiteK o x g ev hs) D) : tS K mg WF (g ⟨a, cls, d⟩) (goneD o D) (putE o a σ) H := by
  refine ⟨m, DL.putV o (.exv ⟨a, cls, d⟩ x.cls x.arg) ev, hs, rs.putV o (by simp only [RV]; exact ⟨trivial, rx⟩), hr, ?_⟩
  unfold suiteK at q
  cases e : tryK (fun t => match g t (DL.putV o (.exv t x.cls x.arg) ev) hs with
    | some (r, h) => (stripF o r).map (·, h)
    | none => none) with
  | none => rw [e] at q; exact q.elim
  | some r =>
    rw [e] at q
    have e1 : (match g ⟨a, cls, d⟩ (DL.putV o (.exv ⟨a, cls, d⟩ x.cls x.arg) ev) hs with
      | some (r, h) => (stripF o r).map (·, h)
      | none => none) = some r := tryK_get e ⟨a, cls, d⟩
    cases e2 : g ⟨a, cls, d⟩ (DL.putV o (.exv ⟨a, cls, d⟩ x.cls x.arg) ev) hs with
    | none => rw [e2] at e1; cases e1
    | some r0 =>
      obtain ⟨r0, h0⟩ := r0
      rw [e2] at e1
      cases r0 with
      | nx e3 => cases e1; exact fun m' H' σ' x1 x2 x3 => q m' H' _ x1 x2 (x3.dropV o)
      | ret d3 => cases e1; exact fun m' H' v x1 x2 x3 => q m' H' v x1 x2 x3
      | bk e3 => cases e1; exact fun m' H' σ' x1 x2 x3 => q m' H' _ x1 x2 (x3.dropV o)
      | ct e3 => cases e1; exact fun m' H' σ' x1 x2 x3 => q m' H' _ x1 x2 (x3.dropV o)
      | exc z e3 => cases e1
/-- what is asked of the clauses -/
def HdsP (C : SC) (X : Cx) (W : WX) (hds : List ExceptHandler) (k : Ex → Ev → S) : Prop := ∃ l, HdsA X hds l ∧ ∀ (x : Ex) (cls : Value) (d : Option Addr) (D : Ends) (σ : L2.St) (H : Hp) (m : List Addr) (ev : Ev) (hs : Hs), RS X.K X.mg m H ev σ → HR X.K X.mg m hs H → RX X.K X.mg H x cls d → AfterS X.K X.mg W m H (k x ev hs) D → wAll X.K W D l cls d σ H
theorem hds_nil : HdsP C X W [] fun x e hs => some (.exc x e, hs) := ⟨[], .nil, fun x cls d D σ H m ev hs rs hr rx q => q m H σ cls d .refl hr rs rx⟩
theorem hds_cons (h : XOk C X W) {y : Str} {np pos' : Pos} {nm : Option Str} {b₀ : Stmt} {suite : List Stmt} {hds : List ExceptHandler} {g : Tk → Ev → S} {k : Ex → Ev → S} (hc : clsOk C y = true) (hn : (okSlot C nm).isSome = true)
    (hsu : ∀ (t : Tk) (oe : Obj) (pn : List (Addr × Obj)), Zc t.cls t.d oe → (∃ vs, oe.data = .fields vs) → DSs (X.suite t.a ((t.a, oe) :: pn)) WF (b₀ :: suite) (g t)) (hr : HdsP C X W hds k) :
    HdsP C X W (.ExceptHandler (some (.Name y np)) nm (b₀ :: suite) pos' :: hds) fun x => hdAny C x (some (.Name y np)) nm g (k x) := by
  obtain ⟨l, hl, ih⟩ := hr
  unfold clsOk at hc
  rw [Bool.and_eq_true] at hc
  obtain ⟨hg, hdb, hne⟩ := glob_of h hc.1
  -- the class that is named
  have hcl : ∃ v, Names X y v ∧ ∀ c E b, X.mg c = some (.ref E) → ErrM X.K X.mg c E → hitC C c y = some b → PySem.W.exmOne X.K (.ref E) v = some b := by
    have hc2 := hc.2
    cases eg : C.G y with
    | none => rw [eg] at hc2; cases hc2
    | some gi =>
      rw [eg] at hc2
      cases gi with
      | val d => cases hc2
      | fn n f => cases hc2
      | bi =>
        have hm : X.mg y = none := h.gl y _ eg
        have hy : y = ("ValueError" : Str) ∨ y = ("Exception" : Str) := by simpa using hc2
        rcases hy with rfl | rfl
        · refine ⟨.type "ValueError", ⟨hg, hdb, .inr ⟨hm, by kernel_rfl, hne⟩⟩, fun c E b h1 h2 h3 => ?_⟩
          unfold hitC at h3
          rw [eg] at h3
          simp at h3
          subst h3
          exact (hit_ty h2 (.inl rfl)).2
        · refine ⟨.type "Exception", ⟨hg, hdb, .inr ⟨hm, by kernel_rfl, hne⟩⟩, fun c E b h1 h2 h3 => ?_⟩
          unfold hitC at h3
          rw [eg] at h3
          simp at h3
          subst h3
          exact (hit_ty h2 (.inr rfl)).2
      | err fld =>
        obtain ⟨_, D, hD, _⟩ := h.gl y _ eg
        refine ⟨.ref D, ⟨hg, hdb, .inl hD⟩, fun c E b h1 h2 h3 => ?_⟩
        unfold hitC at h3
        rw [eg] at h3
        obtain ⟨D', q1, _, q2⟩ := hit_ok h h2 h1 h3
        rw [hD] at q1
        cases q1
        exact q2
      | base =>
        obtain ⟨_, D, hD⟩ := h.gl y _ eg
        refine ⟨.ref D, ⟨hg, hdb, .inl hD⟩, fun c E b h1 h2 h3 => ?_⟩
        unfold hitC at h3
        rw [eg] at h3
        obtain ⟨D', q1, _, q2⟩ := hit_ok h h2 h1 h3
        rw [hD] at q1
        cases q1
        exact q2
  obtain ⟨v, hN, hhit⟩ := hcl
  cases eo : okSlot C nm with
  | none => rw [eo] at hn; cases hn
  | some o =>
    have fin : ∀ (x : Ex) (cls : Value) (d : Option Addr) (D : Ends) (σ : L2.St) (H : Hp) (m : List Addr) (ev : Ev) (hs : Hs), RS X.K X.mg m H ev σ → HR X.K X.mg m hs H → RX X.K X.mg H x cls d → AfterS X.K X.mg W m H (hdAny C x (some (.Name y np)) nm g (k x) ev hs) D →
        wAll X.K W D ((v, o, fun a cls d => tS X.K X.mg WF (g ⟨a, cls, d⟩)) :: l) cls d σ H := by
      intro x cls d D σ H m ev hs rs hr rx q
      obtain ⟨E, c1, c2, c3, c4⟩ := id rx
      unfold hdAny at q
      simp only [eo] at q
      cases eh : hitC C x.cls y with
      | none => simp only [eh] at q; exact q.elim
      | some b =>
        refine ⟨b, by rw [c2]; exact hhit _ _ _ c1 c3 eh, fun hb a na => ?_, fun hb => ?_⟩
        · subst hb
          simp only [eh] at q
          exact suite_ok rs hr rx q
        · subst hb
          simp only [eh] at q
          exact ih x cls d D σ H m ev hs rs hr rx q
    cases nm with
    | none =>
      cases eo
      exact ⟨_, .plain hN (fun a oe cls d pn hz hf => hsu ⟨a, cls, d⟩ oe pn hz hf) hl, fin⟩
    | some n =>
      have eo' : (if C.sc.names.lookup n = some .local then (findIx C.N n).map some else none) = some o := eo
      split at eo'
      · rename_i hloc
        obtain ⟨i, ei, rfl⟩ := Option.map_eq_some_iff.mp eo'
        exact ⟨_, .named hN (by rw [h.N]; exact findIx_get ei) (by show X.env.scope.names.lookup n = _; rw [h.sc]; exact hloc) (fun a oe cls d pn hz hf => hsu ⟨a, cls, d⟩ oe pn hz hf) hl, fin⟩
      · cases eo'
theorem hds_one (h : XOk C X W) {ty : Option Expr} {nm : Option Str} {suite : List Stmt} {pos' : Pos} {hds : List ExceptHandler} {k : Ex → Ev → S} (hk : hdOk C (.ExceptHandler ty nm suite pos') = true) (ihb : ∀ {C : SC} {X : Cx} {W : WX}, XOk C X W → DSs X W suite (evB C suite)) (hr : HdsP C X W hds k) :
    HdsP C X W (.ExceptHandler ty nm suite pos' :: hds) fun x => hdAny C x ty nm (fun t => evB (C.at t) suite) (k x) := by
  cases suite with
  | nil => cases ty with
    | none => cases hk
    | some t => cases t <;> cases hk
  | cons b₀ r =>
    cases ty with
    | none => cases hk
    | some t =>
      cases t with
      | Name y np =>
        have h1 : (clsOk C y && (okSlot C nm).isSome) = true := hk
        rw [Bool.and_eq_true] at h1
        exact hds_cons h h1.1 h1.2 (fun t oe pn hz hf => ihb (xok_suite h hz hf)) hr
      | _ => cases hk
theorem try_ok (h : XOk C X W) {body : List Stmt} {h₀ : ExceptHandler} {hds : List ExceptHandler} {pos : Pos} {gb : Ev → S} {k : Ex → Ev → S} (hcl : C.cool = true) (hib : C.inb = false) (hb : ∀ {X : Cx} {W : WX}, XOk C X W → DSs X W body gb) (hh : HdsP C X W (h₀ :: hds) k) : DS X W (.Try body (h₀ :: hds) [] [] pos) (tryS gb k) := by
  obtain ⟨l, hl, ih⟩ := hh
  refine (ps_try_all (tb := fun W' => tS X.K X.mg W' gb) (h.st hib).1 (h.st hib).2 h.nd h.tk (fun W' pn xe tk po => hb (xok_tr h hcl tk po)) hl).imp fun D σ H ⟨m, ev, hs, rs, hr, q⟩ => ⟨m, ev, hs, rs, hr, ?_⟩
  unfold tryS at q
  cases e : gb ev hs with
  | none => rw [e] at q; exact q
  | some r =>
    obtain ⟨r, h1⟩ := r
    rw [e] at q
    cases r with
    | exc x e1 => exact fun m' H' σ' cls d x1 x2 x3 x4 => ih x cls d D σ' H' m' e1 h1 x3 x2 x4 (AfterS.from x1 q)
    | nx e1 => exact q
    | ret d => exact q
    | bk e1 => exact q
    | ct e1 => exact q
end
mutual
theorem evS_ok : ∀ (s : Stmt) {C : SC} {X : Cx} {W : WX}, XOk C X W → DS X W s (evS C s)
  | .Expr v pos, C, X, W, h => by
    simp only [evS]
    split
    · rename_i hn; exact ds_expr (ev_ok v h) (swaps_no hn)
    · exact ds_stuck
  | .Assign targets value pos, C, X, W, h => by
    simp only [evS]
    refine asgAny_ok h (ev_ok value h) (fun vs k p e hp => ?_) (fun y py i hn hy => ?_) (fun o i p e => ?_)
    · subst e; exact ⟨evs C vs, evs_ok vs h hp, by rw [ev, if_pos hp]⟩
    · cases value <;> first | (cases hn; done) | skip
      · rw [ev]
        exact compSet_ok h hy (evGen_ok _ h) (evGenA_ok _ h) (fun {X} => evGenIf_ok _) (fun {X} h => ev_ok _ h) (fun {X} => evGen1_ok _) (fun {X} => evGenA1_ok _) (fun {X} => evGenIf1_ok _)
      · simp only [ev]; exact asg_stuck
      · simp only [ev]; exact asg_stuck
    · subst e
      simp only [evTO, evTI]
      exact ⟨ev_ok o h, ev_ok i h⟩
  | .AugAssign tg op v pos, C, X, W, h => by
    simp only [evS]
    exact augAny_ok h (ev_ok v h)
  | .For tg iter body orelse pos, C, X, W, h => by
    simp only [evS]
    exact forAny_ok h (ev_ok iter h) (evArgs_ok iter h) (evB_ok body h)
  | .While t body orelse pos, C, X, W, h => by
    simp only [evS]
    split
    · exact ds_while h.po (evT_ok t h) (evB_ok body h)
    · exact ds_stuck
  | .If t a b pos, C, X, W, h => by
    simp only [evS]
    exact ds_if (evT_ok t h) (evB_ok a h) (evB_ok b h)
  | .Return v pos, C, X, W, h => by
    simp only [evS]
    split
    · exact ds_ret (ev_ok _ h)
    · exact ds_retN
  | .Pass _, C, X, W, h => by simp only [evS]; exact ds_pass
  | .Break _, C, X, W, h => by simp only [evS]; exact ds_break
  | .Continue _, C, X, W, h => by simp only [evS]; exact ds_continue
  | .FunctionDef .., _, _, _, _ => by simp only [evS]; exact ds_stuck
  | .AsyncFunctionDef .., _, _, _, _ => by simp only [evS]; exact ds_stuck
  | .ClassDef .., _, _, _, _ => by simp only [evS]; exact ds_stuck
  | .Delete .., _, _, _, _ => by simp only [evS]; exact ds_stuck
  | .TypeAlias .., _, _, _, _ => by simp only [evS]; exact ds_stuck
  | .AnnAssign .., _, _, _, _ => by simp only [evS]; exact ds_stuck
  | .AsyncFor .., _, _, _, _ => by simp only [evS]; exact ds_stuck
  | .With .., _, _, _, _ => by simp only [evS]; exact ds_stuck
  | .AsyncWith .., _, _, _, _ => by simp only [evS]; exact ds_stuck
  | .Match .., _, _, _, _ => by simp only [evS]; exact ds_stuck
  | .Raise e c pos, C, X, W, h => by
    simp only [evS]
    refine raise_ok h fun g as ks q e1 a r e2 => ?_
    subst e1
    exact evFst_ok _ h _ _ _ _ rfl _ _ e2
  | .Try body hds orelse fin pos, C, X, W, h => by
    simp only [evS]
    split
    · split
      · rename_i hc
        simp only [Bool.and_eq_true, Bool.not_eq_true'] at hc
        obtain ⟨⟨⟨h1, h2⟩, h3⟩, h4⟩ := hc
        cases hds with
        | nil => cases h3
        | cons h₀ r => exact try_ok h h1 h2 (fun {X W} h => evB_ok body h) (evH_ok (h₀ :: r) h h4)
      · exact ds_stuck
    · exact ds_stuck
  | .TryStar .., _, _, _, _ => by simp only [evS]; exact ds_stuck
  | .Assert .., _, _, _, _ => by simp only [evS]; exact ds_stuck
  | .Import .., _, _, _, _ => by simp only [evS]; exact ds_stuck
  | .ImportFrom .., _, _, _, _ => by simp only [evS]; exact ds_stuck
  | .Global .., _, _, _, _ => by simp only [evS]; exact ds_stuck
  | .Nonlocal .., _, _, _, _ => by simp only [evS]; exact ds_stuck
theorem evB_ok : ∀ (b : List Stmt) {C : SC} {X : Cx} {W : WX}, XOk C X W → DSs X W b (evB C b)
  | [], C, X, W, h => by simp only [evB]; exact dss_nil
  | s :: r, C, X, W, h => by simp only [evB]; exact dss_cons (evS_ok s h) (evB_ok r h)
theorem evH_ok : ∀ (hds : List ExceptHandler) {C : SC} {X : Cx} {W : WX}, XOk C X W → hds.all (hdOk C) = true → HdsP C X W hds (evH C hds)
  | [], C, X, W, h, _ => by simp only [evH]; exact hds_nil
  | .ExceptHandler ty nm suite pos' :: r, C, X, W, h, hc => by
    have ihb : ∀ {C : SC} {X : Cx} {W : WX}, XOk C X W → DSs X W suite (evB C suite) := fun h => evB_ok suite h
    have hc' : hdOk C (.ExceptHandler ty nm suite pos') = true ∧ r.all (hdOk C) = true := by rw [List.all_cons, Bool.and_eq_true] at hc; exact hc
    have ihr := evH_ok r h hc'.2
    simp only [evH]
    exact hds_one h hc'.1 ihb ihr
end
end DL
set_option Elab.async false
set_option linter.all false
set_option maxRecDepth 100000
set_option maxHeartbeats 4000000
namespace DL
open PySem PySem.Spec PyProof.Rows L2

/-! ## defs -/
def startE (n : Nat) (ds : List D) : Ev := ds.map some ++ List.replicate (n - ds.length) none
def runB (n : Nat) (b : Ev → S) (ds : List D) : M D := fun hs => match b (startE n ds) hs with
  | some (.nx _, h) => some (.ok .non, h)
  | some (.ret d, h) => some (.ok d, h)
  | some (.exc x _, h) => some (.error x, h)
  | _ => none
theorem start_ok {K : PySem.W.Frag} {mg : Str → Option Value} {m : List Addr} {H : Hp} {N : List Str} {ds : List D} {vs : List V} (h : RVs K mg m H ds vs) : RS K mg m H (startE N.length ds) (L2.start N vs) := by
  have hl := h.length
  refine ⟨by simp [startE, L2.start, hl], fun i d e => ?_⟩
  unfold startE at e
  unfold L2.start
  by_cases hi : i < ds.length
  · rw [List.getElem?_append_left (by simpa using hi), List.getElem?_map] at e
    rw [List.getElem?_append_left (by simpa [← hl] using hi), List.getElem?_map]
    cases e1 : ds[i]? with
    | none => rw [e1] at e; cases e
    | some d' =>
      rw [e1] at e
      cases e
      obtain ⟨v, h1, h2⟩ := h.get e1
      exact ⟨v, by rw [h1]; rfl, h2⟩
  · rw [List.getElem?_append_right (by simpa using hi)] at e
    rw [List.getElem?_replicate] at e
    split at e <;> cases e
/-- what a def's globals are -/
def GAt (P : Program) (w : World) (K : PySem.W.Frag) (mg : Str → Option Value) (base : Heap) (k : Nat) (x : Str) : GI → Prop
  | .val d => ∃ u v, mg x = some u ∧ RelV v u ∧ ∀ m H, RV K mg m H d v
  | .fn n f => ∃ g fd ps, FnG P w K mg base (L2.CX P w) k g fd ps (spD K mg n f) ∧ mg x = some (.ref g) ∧ PySem.W.keepIn K (.ref g) = true ∧ Binds K fd ps []
  | .bi => mg x = none
  | .err fld => 1 ≤ k ∧ ∃ E, mg x = some (.ref E) ∧ ErrC P K E fld ∧ ErrM K mg x E
  | .base => x = "SilentError" ∧ ∃ E, mg x = some (.ref E)
section
variable {P : Program} {w : World} {K : PySem.W.Frag} {mg : Str → Option Value} {base : Heap}
theorem GAt.mono {j k : Nat} {x : Str} {g : GI} (h : GAt P w K mg base j x g) (hk : j ≤ k) : GAt P w K mg base k x g := by
  cases g with
  | val d => exact h
  | fn n f => obtain ⟨g, fd, ps, F, h⟩ := h; exact ⟨g, fd, ps, F.up hk, h⟩
  | bi => exact h
  | err fld => exact ⟨Nat.le_trans h.1 hk, h.2⟩
  | base => exact h
/-- every global of the list -/
def GAll (P : Program) (w : World) (K : PySem.W.Frag) (mg : Str → Option Value) (base : Heap) (k : Nat) (G : List (Str × GI)) : Prop := ∀ p ∈ G, GAt P w K mg base k p.1 p.2
theorem GAll.nil {k : Nat} : GAll P w K mg base k [] := fun _ h => by cases h
theorem GAll.cons {k : Nat} {x : Str} {g : GI} {G : List (Str × GI)} (h : GAt P w K mg base k x g) (r : GAll P w K mg base k G) : GAll P w K mg base k ((x, g) :: G) := fun p hp => by
  rcases List.mem_cons.mp hp with q | q
  · subst q; exact h
  · exact r p q
theorem GAll.mono {j k : Nat} {G : List (Str × GI)} (h : GAll P w K mg base j G) (hk : j ≤ k) : GAll P w K mg base k G := fun p hp => (h p hp).mono hk
theorem xok_of {C : SC} {qual : Str} {st : Stmt} {f : Addr} {cdv : Value} {A : Around} {outer : List Env} {s : Shared} {H : Hp} {E : XK} {k : Nat} {ps : List Str} (S : FnScope C.N ps (defScope st)) (hsc : defScope st = C.sc)
    (hct : C.hot = none) (gd : A.guards = some []) (hr : Room k (A.deeper (envOfC qual (defScope st) s.heap.objs.size f cdv))) (hg : ∀ x g, C.G x = some g → GAt P w K mg base k x g) :
    XOk C (cxOf (L2.CX P w) P w K mg base C.N qual (defScope st) f cdv A outer s H E) (fun cls d _ H => E cls d H) where
  N := rfl
  sc := hsc
  nd := S.nd
  calm := fun _ => rfl
  st := fun _ => ⟨rfl, rfl⟩
  hot := fun t e => by rw [hct] at e; cases e
  po := passes_of rfl
  tk := takes_of rfl rfl rfl rfl
  u := by have := hr.un; show (A.deeper _).units + 65 < _; omega
  gd := gd
  kd := S.kind
  fn := fun _ _ => rfl
  gl := fun x g e => by
    have q := hg x g e
    cases g with
    | val d => exact q
    | fn n ff => obtain ⟨g, fd, ps, F, h1, h2, h3⟩ := q; exact ⟨k, g, fd, ps, F, fun _ => hr, h1, h2, h3⟩
    | bi => exact q
    | err fld => obtain ⟨hk, q⟩ := q; exact ⟨fun _ => hr.mono hk, q⟩
    | base => exact q
theorem fn_okD {C : SC} {x qual : Str} {st : Stmt} {f : Addr} {fd : FuncData} {ps : List Str} {k : Nat} (F : Fun K x qual st f fd) (S : FnScope C.N ps (defScope st)) (hsc : defScope st = C.sc) (hct : C.hot = none := by rfl) (hg : ∀ x g, C.G x = some g → GAt P w K mg base k x g) :
    FnG P w K mg base (L2.CX P w) (k + 1) f fd ps (spD K mg ps.length (runB C.N.length (evB C (defBody st)))) := by
  refine fnG_of F S (fun vs H Q E ⟨m, hs, ds, hr, rvs, hl, _⟩ => by rw [← rvs.length]; exact hl) (fun cdv A outer s H vs Q E gd hr h => ?_)
  obtain ⟨m, hs, ds, hrr, rvs, hl, q⟩ := h
  have xo := xok_of (C := C) (f := f) (cdv := cdv) (outer := outer) (H := H) (E := E) (qual := qual) S hsc hct gd hr hg
  refine ⟨_, evB_ok (defBody st) xo, m, startE C.N.length ds, hs, start_ok rvs, hrr, ?_⟩
  unfold runB at q
  show AfterS K mg _ m H (evB C (defBody st) (startE C.N.length ds) hs) _
  cases e : evB C (defBody st) (startE C.N.length ds) hs with
  | none => rw [e] at q; exact q.elim
  | some r =>
    obtain ⟨r, h1⟩ := r
    rw [e] at q
    cases r with
    | nx e1 => exact fun m' H' σ' x hr _ => q m' H' x hr .non mk_non
    | ret d => exact fun m' H' v x hr r => q m' H' x hr v r
    | bk e1 => exact q.elim
    | ct e1 => exact q.elim
    | exc z e1 => exact fun m' H' σ' cls d x hr _ rx => q m' H' cls d x hr rx
/-- the law's promise: the run tells True on every row of integers that is short -/
def SpLaw (K : PySem.W.Frag) : Sp := fun vs H Q _ => ∃ (a : Addr) (ns : List Int), vs = [.ref a] ∧ SqF K H a (ns.map V.int) ∧ ns.length ≤ 63 ∧ ∀ H', Q (.bl true) H'
theorem law_sp {r : List D → M D} (h : ∀ ns : List Int, ns.length ≤ 63 → ∃ hs', r [.frl (ns.map D.int)] [] = some (.ok (.bl true), hs')) (vs : List V) (H : Hp) (Q : VK) (E : XK) (q : SpLaw K vs H Q E) : spD K mg 1 r vs H Q E := by
  obtain ⟨a, ns, rfl, hS, hl, k⟩ := q
  obtain ⟨hs', e⟩ := h ns hl
  refine ⟨[], [], [.frl (ns.map D.int)], ⟨rfl, List.nodup_nil, fun n o a h => by simp at h⟩, RVs.cons ?_ (RVs.nil_iff.mpr rfl), rfl, ?_⟩
  · simp only [RV]
    refine ⟨a, ns.map V.int, rfl, hS, ?_⟩
    clear hS hl e
    induction ns with
    | nil => exact RVs.nil_iff.mpr rfl
    | cons n r ih => exact RVs.cons mk_int ih
  · rw [e]
    exact fun m' H' _ _ v r => by rw [rv_bl r]; exact k H'
theorem sqF_of {H : Hp} {a : Addr} {xs : List V} (hO : Only H) (h : SqL K H a xs) : SqF K H a xs := by
  rcases h with (h | ⟨o, h⟩) | h
  · rcases hO a with q | ⟨o, ys, q⟩ <;> rw [h] at q <;> cases q
  · exact .inl ⟨o, h⟩
  · exact .inr h
end
end DL
set_option Elab.async false
set_option linter.all false
set_option maxRecDepth 100000
set_option maxHeartbeats 4000000
namespace DL
open PySem PySem.Spec PyProof.Rows L2

/-! ## what holds behind a run of the little machine -/
def Wp {β : Type} (x : Option (β × Hs)) (Q : β → Hs → Prop) : Prop := match x with
  | some (b, h) => Q b h
  | none => False
theorem Wp.mono {β : Type} {x : Option (β × Hs)} {Q R : β → Hs → Prop} (h : Wp x Q) (hi : ∀ b h, Q b h → R b h) : Wp x R := by
  unfold Wp at *
  split at h
  · exact hi _ _ h
  · exact h
theorem Wp.get {β : Type} {x : Option (β × Hs)} {Q : β → Hs → Prop} (h : Wp x Q) : ∃ b hs, x = some (b, hs) ∧ Q b hs := by
  unfold Wp at h
  split at h
  · exact ⟨_, _, rfl, h⟩
  · exact h.elim
/-- told, and nothing raised -/
def okq {α : Type} (K : α → Hs → Prop) : Except Ex α → Hs → Prop := fun r h => match r with
  | .ok a => K a h
  | .error _ => False
def onOk {α β : Type} (f : α → M β) (Q : Except Ex β → Hs → Prop) : Except Ex α → Hs → Prop := fun r h => match r with
  | .ok a => Wp (f a h) Q
  | .error e => Q (.error e) h
def onEx {α : Type} (k : α → Ev → S) (e : Ev) (Q : Fl → Hs → Prop) : Except Ex α → Hs → Prop := fun r h => match r with
  | .ok a => Wp (k a e h) Q
  | .error x => Q (.exc x e) h
def onNx (g : Ev → S) (Q : Fl → Hs → Prop) : Fl → Hs → Prop := fun r h => match r with
  | .nx e => Wp (g e h) Q
  | r => Q r h
def onRun (Q : Except Ex D → Hs → Prop) : Fl → Hs → Prop := fun r h => match r with
  | .nx _ => Q (.ok .non) h
  | .ret d => Q (.ok d) h
  | .exc x _ => Q (.error x) h
  | _ => False
section
variable {α β : Type} {hs h : Hs}
@[simp] theorem wp_some {b : β} {Q : β → Hs → Prop} : Wp (some (b, hs)) Q = Q b hs := rfl
@[simp] theorem wp_none {Q : β → Hs → Prop} : Wp none Q = False := rfl
@[simp] theorem wp_ite {c : Prop} [Decidable c] {x y : Option (β × Hs)} {Q : β → Hs → Prop} : Wp (if c then x else y) Q = ((c → Wp x Q) ∧ (¬ c → Wp y Q)) := by
  by_cases h : c <;> simp [h]
@[simp] theorem wp_iteS {c : Prop} [Decidable c] {g1 g2 : Ev → S} {e : Ev} {Q : Fl → Hs → Prop} : Wp ((if c then g1 else g2) e hs) Q = ((c → Wp (g1 e hs) Q) ∧ (¬ c → Wp (g2 e hs) Q)) := by
  by_cases h : c <;> simp [h]
@[simp] theorem wp_iteM {c : Prop} [Decidable c] {x y : M β} {Q : Except Ex β → Hs → Prop} : Wp ((if c then x else y) hs) Q = ((c → Wp (x hs) Q) ∧ (¬ c → Wp (y hs) Q)) := by
  by_cases h : c <;> simp [h]
@[simp] theorem okq_ok {K : α → Hs → Prop} {a : α} : okq K (.ok a) h = K a h := rfl
@[simp] theorem okq_err {K : α → Hs → Prop} {e : Ex} : okq K (.error e) h = False := rfl
@[simp] theorem onOk_ok {f : α → M β} {Q : Except Ex β → Hs → Prop} {a : α} : onOk f Q (.ok a) h = Wp (f a h) Q := rfl
@[simp] theorem onOk_err {f : α → M β} {Q : Except Ex β → Hs → Prop} {e : Ex} : onOk f Q (.error e) h = Q (.error e) h := rfl
@[simp] theorem onEx_ok {k : α → Ev → S} {e : Ev} {Q : Fl → Hs → Prop} {a : α} : onEx k e Q (.ok a) h = Wp (k a e h) Q := rfl
@[simp] theorem onEx_err {k : α → Ev → S} {e : Ev} {Q : Fl → Hs → Prop} {x : Ex} : onEx k e Q (.error x) h = Q (.exc x e) h := rfl
@[simp] theorem onNx_nx {g : Ev → S} {Q : Fl → Hs → Prop} {e : Ev} : onNx g Q (.nx e) h = Wp (g e h) Q := rfl
@[simp] theorem onNx_ret {g : Ev → S} {Q : Fl → Hs → Prop} {d : D} : onNx g Q (.ret d) h = Q (.ret d) h := rfl
@[simp] theorem onNx_bk {g : Ev → S} {Q : Fl → Hs → Prop} {e : Ev} : onNx g Q (.bk e) h = Q (.bk e) h := rfl
@[simp] theorem onNx_ct {g : Ev → S} {Q : Fl → Hs → Prop} {e : Ev} : onNx g Q (.ct e) h = Q (.ct e) h := rfl
@[simp] theorem onNx_exc {g : Ev → S} {Q : Fl → Hs → Prop} {x : Ex} {e : Ev} : onNx g Q (.exc x e) h = Q (.exc x e) h := rfl
@[simp] theorem onRun_nx {Q : Except Ex D → Hs → Prop} {e : Ev} : onRun Q (.nx e) h = Q (.ok .non) h := rfl
@[simp] theorem onRun_ret {Q : Except Ex D → Hs → Prop} {d : D} : onRun Q (.ret d) h = Q (.ok d) h := rfl
@[simp] theorem onRun_exc {Q : Except Ex D → Hs → Prop} {x : Ex} {e : Ev} : onRun Q (.exc x e) h = Q (.error x) h := rfl
@[simp] theorem wp_bind {x : M α} {f : α → M β} {Q : Except Ex β → Hs → Prop} : Wp (M.bind x f hs) Q = Wp (x hs) (onOk f Q) := by
  unfold M.bind
  cases x hs with
  | none => rfl
  | some r => obtain ⟨r, h⟩ := r; cases r <;> rfl
@[simp] theorem wp_pure {a : α} {Q : Except Ex α → Hs → Prop} : Wp (M.pure a hs) Q = Q (.ok a) hs := rfl
@[simp] theorem wp_stuck {Q : Except Ex α → Hs → Prop} : Wp ((M.stuck : M α) hs) Q = False := rfl
@[simp] theorem wp_lift {p : P α} {Q : Except Ex α → Hs → Prop} : Wp (M.lift p hs) Q = Wp (p hs) (fun a h => Q (.ok a) h) := by
  unfold M.lift
  cases p hs <;> rfl
@[simp] theorem wp_ppure {a : α} {Q : α → Hs → Prop} : Wp (P.pure a hs) Q = Q a hs := rfl
@[simp] theorem wp_pstuck {Q : α → Hs → Prop} : Wp ((P.stuck : P α) hs) Q = False := rfl
@[simp] theorem wp_expr {f : Ev → M α} {k : α → Ev → S} {e : Ev} {Q : Fl → Hs → Prop} : Wp (exprS f k e hs) Q = Wp (f e hs) (onEx k e Q) := by
  unfold exprS
  cases f e hs with
  | none => rfl
  | some r => obtain ⟨r, h⟩ := r; cases r <;> rfl
@[simp] theorem wp_seq {g1 g2 : Ev → S} {e : Ev} {Q : Fl → Hs → Prop} : Wp (seqS g1 g2 e hs) Q = Wp (g1 e hs) (onNx g2 Q) := by
  unfold seqS
  cases g1 e hs with
  | none => rfl
  | some r => obtain ⟨r, h⟩ := r; cases r <;> rfl
@[simp] theorem wp_next {e : Ev} {Q : Fl → Hs → Prop} : Wp (nextS e hs) Q = Q (.nx e) hs := rfl
@[simp] theorem wp_run {n : Nat} {b : Ev → S} {ds : List D} {Q : Except Ex D → Hs → Prop} : Wp (runB n b ds hs) Q = Wp (b (startE n ds) hs) (onRun Q) := by
  unfold runB
  cases b (startE n ds) hs with
  | none => rfl
  | some r => obtain ⟨r, h⟩ := r; cases r <;> rfl
/-! ### expressions -/
variable {e : Ev} {fa fb fc : Ev → M D} {Q : Except Ex D → Hs → Prop}
@[simp] theorem wp_op2 {f : D → D → P D} : Wp (op2 f fa fb e hs) Q = Wp (fa e hs) (onOk (fun x => M.bind (fb e) fun y => M.lift (f x y)) Q) := by
  unfold op2; rw [wp_bind]
@[simp] theorem wp_op3 {f g : D → D → P D} : Wp (op3 f g fa fb fc e hs) Q = Wp (fa e hs) (onOk (fun x => M.bind (fb e) fun y => M.bind (M.lift (f x y)) fun z => M.bind (boolOf z) fun k => if k = true then M.bind (fc e) fun w => M.lift (g y w) else M.pure (.bl false)) Q) := by
  unfold op3; rw [wp_bind]
@[simp] theorem boolOf_bl {b : Bool} : boolOf (.bl b) = M.pure b := rfl
@[simp] theorem wp_asTest {Q : Except Ex Bool → Hs → Prop} : Wp (asTest fa e hs) Q = Wp (fa e hs) (onOk boolOf Q) := by
  unfold asTest; rw [wp_bind]
@[simp] theorem wp_truth {Q : Except Ex Bool → Hs → Prop} : Wp (truth fa e hs) Q = Wp (fa e hs) (onOk truM Q) := by
  unfold truth; rw [wp_bind]
@[simp] theorem truM_bl {b : Bool} {Q : Except Ex Bool → Hs → Prop} : Wp (truM (.bl b) hs) Q = Q (.ok b) hs := rfl
@[simp] theorem truM_int {i : Int} {Q : Except Ex Bool → Hs → Prop} : Wp (truM (.int i) hs) Q = Q (.ok (i != 0)) hs := rfl
@[simp] theorem truM_non {Q : Except Ex Bool → Hs → Prop} : Wp (truM .non hs) Q = Q (.ok false) hs := rfl
@[simp] theorem truM_tup {xs : List D} {Q : Except Ex Bool → Hs → Prop} : Wp (truM (.tup xs) hs) Q = Q (.ok (!xs.isEmpty)) hs := rfl
@[simp] theorem wp_notM {f : Ev → M Bool} {Q : Except Ex Bool → Hs → Prop} : Wp (notM f e hs) Q = Wp (f e hs) (onOk (fun b => M.pure (!b)) Q) := by
  unfold notM; rw [wp_bind]
@[simp] theorem wp_notV : Wp (notV fa e hs) Q = Wp (fa e hs) (onOk (fun x => M.bind (truM x) fun b => M.pure (.bl (!b))) Q) := by
  unfold notV; rw [wp_bind]
@[simp] theorem wp_negV : Wp (negV fa e hs) Q = Wp (fa e hs) (onOk negD Q) := by
  unfold negV; rw [wp_bind]
@[simp] theorem negD_int {i : Int} : negD (.int i) = M.pure (.int (-i)) := rfl
@[simp] theorem wp_ifV {f : Ev → M Bool} {ga gb : Ev → M α} {Q : Except Ex α → Hs → Prop} : Wp (ifV f ga gb e hs) Q = Wp (f e hs) (onOk (fun k => if k = true then ga e else gb e) Q) := by
  unfold ifV; rw [wp_bind]
@[simp] theorem wp_andM {f g : Ev → M Bool} {Q : Except Ex Bool → Hs → Prop} : Wp (andM f g e hs) Q = Wp (f e hs) (onOk (fun k => if k = true then g e else M.pure false) Q) := by
  unfold andM; rw [wp_bind]
@[simp] theorem wp_orM {f g : Ev → M Bool} {Q : Except Ex Bool → Hs → Prop} : Wp (orM f g e hs) Q = Wp (f e hs) (onOk (fun k => if k = true then M.pure true else g e) Q) := by
  unfold orM; rw [wp_bind]
@[simp] theorem wp_andV : Wp (andV fa fb e hs) Q = Wp (fa e hs) (onOk (fun x => M.bind (truM x) fun k => if k = true then fb e else M.pure x) Q) := by
  unfold andV; rw [wp_bind]
@[simp] theorem wp_orV : Wp (orV fa fb e hs) Q = Wp (fa e hs) (onOk (fun x => M.bind (truM x) fun k => if k = true then M.pure x else fb e) Q) := by
  unfold orV; rw [wp_bind]
@[simp] theorem wp_cons {gs : Ev → M (List D)} {Q : Except Ex (List D) → Hs → Prop} : Wp (consM fa gs e hs) Q = Wp (fa e hs) (onOk (fun x => M.bind (gs e) fun xs => M.pure (x :: xs)) Q) := by
  unfold consM; rw [wp_bind]
@[simp] theorem wp_tup {gs : Ev → M (List D)} : Wp (tupM gs e hs) Q = Wp (gs e hs) (onOk (fun xs => if xs.length ≤ sizeLine then M.pure (.tup xs) else M.stuck) Q) := by
  unfold tupM; rw [wp_bind]
@[simp] theorem wp_lst {gs : Ev → M (List D)} : Wp (lstM gs e hs) Q = Wp (gs e hs) (onOk (fun xs => if xs.length ≤ sizeLine then M.lift (newL xs) else M.stuck) Q) := by
  unfold lstM; rw [wp_bind]
@[simp] theorem wp_newL {xs : List D} {Q : D → Hs → Prop} : Wp (newL xs hs) Q = Q (.loc hs.length) (hs ++ [.lst xs]) := rfl
@[simp] theorem wp_slice {fl fh : Ev → M (Option Int)} : Wp (sliceM fa fl fh e hs) Q = Wp (fa e hs) (onOk (fun x => M.bind (fl e) fun lo => M.bind (fh e) fun hi => M.lift (sliceD x lo hi)) Q) := by
  unfold sliceM; rw [wp_bind]
@[simp] theorem partD_int {i : Int} : partD (.int i) = M.pure (some i) := rfl
@[simp] theorem wp_rev : Wp (revM fa e hs) Q = Wp (fa e hs) (onOk (fun x => M.lift (revD x)) Q) := by
  unfold revM; rw [wp_bind]
@[simp] theorem wp_callM {f : List D → P D} {gs : Ev → M (List D)} : Wp (callM f gs e hs) Q = Wp (gs e hs) (onOk (fun xs => M.lift (f xs)) Q) := by
  unfold callM; rw [wp_bind]
@[simp] theorem wp_callF {n : Nat} {f : List D → M D} {gs : Ev → M (List D)} : Wp (callF n f gs e hs) Q = Wp (gs e hs) (onOk (fun xs => if xs.length = n then f xs else M.stuck) Q) := by
  unfold callF; rw [wp_bind]
@[simp] theorem wp_methM {T : String} {f : D → List D → P D} {gs : Ev → M (List D)} : Wp (methM T f fa gs e hs) Q = Wp (fa e hs) (onOk (fun x => M.bind (chkTy T x) fun _ => M.bind (gs e) fun xs => M.lift (f x xs)) Q) := by
  unfold methM; rw [wp_bind]
@[simp] theorem wp_var {i : Nat} : Wp (varD i e hs) Q = (∃ d, e[i]? = some (some d) ∧ Q (.ok d) hs) := by
  unfold varD
  cases h : e[i]? with
  | none => simp
  | some o => cases o <;> simp
/-! ### statements -/
variable {R : Fl → Hs → Prop}
@[simp] theorem wp_ifS {f : Ev → M Bool} {g1 g2 : Ev → S} : Wp (ifS f g1 g2 e hs) R = Wp (f e hs) (onEx (fun k => if k = true then g1 else g2) e R) := by
  unfold ifS; rw [wp_expr]
@[simp] theorem wp_ret : Wp (retS fa e hs) R = Wp (fa e hs) (onEx (fun d _ hs => some (.ret d, hs)) e R) := by
  unfold retS; rw [wp_expr]
@[simp] theorem wp_drop : Wp (dropS fa e hs) R = Wp (fa e hs) (onEx (fun _ => nextS) e R) := by
  unfold dropS; rw [wp_expr]
def asgK (t : Tg) (d : D) : Ev → S := fun e hs => match asg t d e with
  | some e2 => some (.nx e2, hs)
  | none => none
def setK (o i v : D) : Ev → S := fun e hs => match setIxD o i v hs with
  | some (.non, h1) => some (.nx e, h1)
  | _ => none
def augK (op : Operator) (n : Nat) (x y : D) : Ev → S := fun e hs => match augD op x y hs with
  | some (z, h1) => some (.nx (e.set n (some z)), h1)
  | none => none
def bodyK (t : Tg) (g : Ev → S) (d : D) : Ev → S := fun e hs => match asg t d e with
  | some e2 => g e2 hs
  | none => none
@[simp] theorem wp_asgS {t : Tg} : Wp (asgS t fa e hs) R = Wp (fa e hs) (onEx (asgK t) e R) := wp_expr (k := asgK t)
@[simp] theorem wp_setS : Wp (setS fa fb fc e hs) R = Wp (fa e hs) (onEx (fun v => exprS fb fun o => exprS fc fun i => setK o i v) e R) := wp_expr (k := fun v => exprS fb fun o => exprS fc fun i => setK o i v)
@[simp] theorem wp_augS {op : Operator} {n : Nat} : Wp (augS op n fa e hs) R = Wp (varD n e hs) (onEx (fun x => exprS fa fun y => augK op n x y) e R) := wp_expr (k := fun x => exprS fa fun y => augK op n x y)
@[simp] theorem wp_loop {t : Tg} {fi : Ev → M Src} {g : Ev → S} : Wp (loopS t fi g e hs) R = Wp (fi e hs) (onEx (fun src => forS src.ok (bodyK t g) src.items) e R) := wp_expr (k := fun (src : Src) => forS src.ok (bodyK t g) src.items)
@[simp] theorem asgK_one {i : Nat} {d : D} : Wp (asgK (.one i) d e hs) R = R (.nx (e.set i (some d))) hs := rfl
@[simp] theorem asgK_many {is : List Nat} {ds : List D} : Wp (asgK (.many is) (.tup ds) e hs) R = (is.length = ds.length ∧ R (.nx (sets e is ds)) hs) := by
  unfold asgK asg
  by_cases h : is.length = ds.length <;> simp [h]
@[simp] theorem bodyK_one {g : Ev → S} {i : Nat} {d : D} : bodyK (.one i) g d e = g (e.set i (some d)) := rfl
@[simp] theorem bodyK_many {g : Ev → S} {is : List Nat} {ds : List D} : Wp (bodyK (.many is) g (.tup ds) e hs) R = (is.length = ds.length ∧ Wp (g (sets e is ds) hs) R) := by
  unfold bodyK asg
  by_cases h : is.length = ds.length <;> simp [h]
@[simp] theorem sets_cons {i : Nat} {is : List Nat} {d : D} {ds : List D} : sets e (i :: is) (d :: ds) = sets (e.set i (some d)) is ds := rfl
@[simp] theorem sets_nil {ds : List D} : sets e [] ds = e := by cases ds <;> rfl
@[simp] theorem startE_eq {n : Nat} {ds : List D} : startE n ds = ds.map some ++ List.replicate (n - ds.length) none := rfl
/-! ### errors -/
@[simp] theorem wp_raise0 {x : Str} : Wp (raise0 x e hs) R = R (.exc ⟨x, []⟩ e) hs := rfl
@[simp] theorem wp_raise1_int {x f : Str} {i : Int} : Wp (raise1 x f (.int i) e hs) R = R (.exc ⟨x, [(f, .int i)]⟩ e) hs := rfl
@[simp] theorem wp_raise1_str {x f y : Str} : Wp (raise1 x f (.str y) e hs) R = R (.exc ⟨x, [(f, .str y)]⟩ e) hs := rfl
/-- what is asked behind a try's body -/
def onTry (k : Ex → Ev → S) (Q : Fl → Hs → Prop) : Fl → Hs → Prop := fun r h => match r with
  | .exc x e => Wp (k x e h) Q
  | r => Q r h
@[simp] theorem onTry_nx {k : Ex → Ev → S} : onTry k R (.nx e) hs = R (.nx e) hs := rfl
@[simp] theorem onTry_ret {k : Ex → Ev → S} {d : D} : onTry k R (.ret d) hs = R (.ret d) hs := rfl
@[simp] theorem onTry_bk {k : Ex → Ev → S} : onTry k R (.bk e) hs = R (.bk e) hs := rfl
@[simp] theorem onTry_ct {k : Ex → Ev → S} : onTry k R (.ct e) hs = R (.ct e) hs := rfl
@[simp] theorem onTry_exc {k : Ex → Ev → S} {x : Ex} : onTry k R (.exc x e) hs = Wp (k x e hs) R := rfl
@[simp] theorem wp_try {g : Ev → S} {k : Ex → Ev → S} : Wp (tryS g k e hs) R = Wp (g e hs) (onTry k R) := by
  unfold tryS
  cases g e hs with
  | none => rfl
  | some r => obtain ⟨r, h⟩ := r; cases r <;> rfl
theorem wp_suite {o : Option Nat} {x : Ex} {g : Tk → Ev → S} (r : Fl) (h : Hs) (q : ∀ t, Wp (g t (putV o (.exv t x.cls x.arg) e) hs) fun f h' => stripF o f = some r ∧ h' = h) (k : R r h) : Wp (suiteK o x g e hs) R := by
  have key : ∀ run' : Tk → Option (Fl × Hs), (∀ t, run' t = some (r, h)) → tryK run' = some (r, h) := fun run' hr => by
    unfold tryK
    have ex : ∃ r, ∀ t, run' t = some r := ⟨(r, h), hr⟩
    rw [dif_pos ex]
    have z := Classical.choose_spec ex ⟨0, .none, none⟩
    rw [hr] at z
    rw [← Option.some.inj z]
  have z : suiteK o x g e hs = some (r, h) := key _ fun t => by
    obtain ⟨f, h', e1, e2, rfl⟩ := (q t).get
    simp only [e1, e2, Option.map_some]
  rw [z]
  exact k
/-! ### data -/
theorem ans {b : Bool} : answers (some b) hs = some (.bl b, hs) := rfl
theorem eqDd_of {a b : D} {p q : PyData} (h1 : a.data hs = some p) (h2 : b.data hs = some q) (s1 : SeqAt.shaped p = true) (s2 : SeqAt.shaped q = true) : eqDd hs a b = some (PyData.eqv p q) := by
  unfold eqDd
  rw [h1, h2]
  simp [s1, s2]
theorem eqv_ss {i j : Str} : PyData.eqv (.str i) (.str j) = decide (i = j) := by
  unfold PyData.eqv
  by_cases e : i = j <;> simp [e]
theorem eqD_of {a b : D} {p q : PyData} (h1 : a.data hs = some p) (h2 : b.data hs = some q) (s1 : SeqAt.shaped p = true) (s2 : SeqAt.shaped q = true) : eqD hs a b = some (PyData.eqv p q) := by
  unfold eqD
  split
  · cases h1; cases h2
    rw [eqv_ss]
  · exact eqDd_of h1 h2 s1 s2
@[simp] theorem eq_ii {i j : Int} : eqD hs (.int i) (.int j) = some (decide (i = j)) := rfl
@[simp] theorem eq_str {i j : Str} : eqD hs (.str i) (.str j) = some (decide (i = j)) := rfl
theorem eq_ss {i j : Str} (h1 : PyData.canLay0 (.str i) = true) (h2 : PyData.canLay0 (.str j) = true) : eqD hs (.str i) (.str j) = some (decide (i = j)) := rfl
@[simp] theorem eq_bb {i j : Bool} : eqD hs (.bl i) (.bl j) = some (decide (i = j)) := by cases i <;> cases j <;> rfl
end
end DL
set_option Elab.async false
set_option linter.all false
set_option maxRecDepth 100000
set_option maxHeartbeats 4000000
namespace DL
open PySem PySem.Spec PyProof.Rows L2

/-! ## reading the heap -/
def cell (hs : Hs) (n : Nat) : Option O := hs[n]?
@[simp] theorem cell_eq {hs : Hs} {n : Nat} : hs[n]? = cell hs n := rfl
theorem cell_lt {hs : Hs} {n : Nat} {o : O} (e : cell hs n = some o) : n < hs.length := (List.getElem?_eq_some_iff.mp e).1
@[simp] theorem cell_set_self {hs : Hs} {n : Nat} {o : O} (h : n < hs.length) : cell (hs.set n o) n = some o := List.getElem?_set_self h
@[simp] theorem cell_set_ne {hs : Hs} {n m : Nat} {o : O} (h : n ≠ m) : cell (hs.set n o) m = cell hs m := List.getElem?_set_ne h
@[simp] theorem cell_push {hs : Hs} {o : O} : cell (hs ++ [o]) hs.length = some o := by
  unfold cell
  simp
@[simp] theorem cell_push_lt {hs : Hs} {n : Nat} {o : O} (h : n < hs.length) : cell (hs ++ [o]) n = cell hs n := List.getElem?_append_left h
theorem cell_app {hs ys : Hs} {k : Nat} : cell (hs ++ ys) (hs.length + k) = ys[k]? := by
  unfold cell
  rw [List.getElem?_append_right (by omega), Nat.add_sub_cancel_left]
@[simp] theorem cell_app0 {hs : Hs} {y : O} {ys : Hs} : cell (hs ++ y :: ys) hs.length = some y := cell_app (k := 0)
@[simp] theorem cell_app1 {hs : Hs} {x y : O} {ys : Hs} : cell (hs ++ x :: y :: ys) (hs.length + 1) = some y := cell_app (k := 1)
@[simp] theorem cell_app2 {hs : Hs} {x y z : O} {ys : Hs} : cell (hs ++ x :: y :: z :: ys) (hs.length + 1 + 1) = some z := cell_app (k := 2)
@[simp] theorem cell_app_lt {hs ys : Hs} {n : Nat} (h : n < hs.length) : cell (hs ++ ys) n = cell hs n := List.getElem?_append_left h
@[simp] theorem le_sz {n : Nat} (h : n ≤ 1000) : (n ≤ sizeLine) = True := eq_true (Nat.le_of_lt (small1000 h))
@[simp] theorem lt_sz {n : Nat} (h : n ≤ 1000) : (n < sizeLine) = True := eq_true (small1000 h)
/-! ## loops -/
def onTurn (J : Ev → Hs → Prop) (R : Fl → Hs → Prop) : Fl → Hs → Prop := fun r h => match r with
  | .nx e => J e h
  | .ct e => J e h
  | .bk e => R (.nx e) h
  | r => R r h
section
variable {J : Ev → Hs → Prop} {R : Fl → Hs → Prop} {h hs : Hs} {e : Ev}
@[simp] theorem onTurn_nx : onTurn J R (.nx e) h = J e h := rfl
@[simp] theorem onTurn_ct : onTurn J R (.ct e) h = J e h := rfl
@[simp] theorem onTurn_bk : onTurn J R (.bk e) h = R (.nx e) h := rfl
@[simp] theorem onTurn_ret {d : D} : onTurn J R (.ret d) h = R (.ret d) h := rfl
@[simp] theorem onTurn_exc {x : Ex} : onTurn J R (.exc x e) h = R (.exc x e) h := rfl
theorem wp_for_at {ok : Hs → Prop} {body : D → Ev → S} {items : List D} (I : Nat → Ev → Hs → Prop) (step : ∀ i d e hs, items[i]? = some d → I i e hs → ok hs ∧ Wp (body d e hs) (onTurn (I (i + 1)) R)) (fin : ∀ e hs, I items.length e hs → ok hs ∧ R (.nx e) hs) :
    ∀ (k i : Nat) (e : Ev) (hs : Hs), items.length - i = k → i ≤ items.length → I i e hs → Wp (forS ok body (items.drop i) e hs) R
  | 0, i, e, hs, hk, hi, h => by
    have : i = items.length := by omega
    subst this
    rw [List.drop_length]
    obtain ⟨h1, h2⟩ := fin e hs h
    simp only [forS, if_pos h1]
    exact h2
  | k + 1, i, e, hs, hk, hi, h => by
    have hlt : i < items.length := by omega
    rw [List.drop_eq_getElem_cons hlt]
    obtain ⟨h1, h2⟩ := step i items[i] e hs (by simp [hlt]) h
    simp only [forS, if_pos h1]
    obtain ⟨r, h', e1, q⟩ := h2.get
    rw [e1]
    cases r with
    | nx e2 => exact wp_for_at I step fin k (i + 1) e2 h' (by omega) (by omega) q
    | ct e2 => exact wp_for_at I step fin k (i + 1) e2 h' (by omega) (by omega) q
    | bk e2 => exact q
    | ret d => exact q
    | exc x e2 => exact q
/-- THE RULE for a for-loop: an invariant by the turn -/
theorem wp_for {ok : Hs → Prop} {body : D → Ev → S} {items : List D} (I : Nat → Ev → Hs → Prop) (h0 : I 0 e hs) (step : ∀ i d e hs, items[i]? = some d → I i e hs → ok hs ∧ Wp (body d e hs) (onTurn (I (i + 1)) R)) (fin : ∀ e hs, I items.length e hs → ok hs ∧ R (.nx e) hs) :
    Wp (forS ok body items e hs) R := by
  have q := wp_for_at I step fin _ 0 e hs rfl (Nat.zero_le _) h0
  simpa using q
/-- THE RULE for a while-loop: an invariant with a measure -/
theorem wp_while {t : Ev → M Bool} {b : Ev → S} (I : Nat → Ev → Hs → Prop) (step : ∀ k e hs, I k e hs → Wp (t e hs) (fun r h => match r with
      | .ok true => Wp (b e h) (onTurn (fun e2 h2 => ∃ k2, k2 < k ∧ I k2 e2 h2) R)
      | .ok false => R (.nx e) h
      | .error x => R (.exc x e) h)) : ∀ (k : Nat) (e : Ev) (hs : Hs), I k e hs → Wp (whileS t b e hs) R := by
  intro k
  induction k using Nat.strongRecOn with
  | _ k ih =>
    intro e hs h
    obtain ⟨r, h1, e1, q⟩ := (step k e hs h).get
    have fin : ∀ {r h2}, whileF t b 1 e hs = some (r, h2) → R r h2 → Wp (whileS t b e hs) R := fun {r h2} a q => by rw [whileS_of a]; exact q
    cases r with
    | error x => exact fin (r := .exc x e) (h2 := h1) (by unfold whileF; rw [e1]) q
    | ok c =>
      cases c with
      | false => exact fin (r := .nx e) (h2 := h1) (by unfold whileF; rw [e1]) q
      | true =>
        obtain ⟨r, h2, e2, q⟩ := Wp.get q
        have again : ∀ {e3}, (r = .nx e3 ∨ r = .ct e3) → (∃ k2, k2 < k ∧ I k2 e3 h2) → Wp (whileS t b e hs) R := fun {e3} hr ⟨k2, hk, h3⟩ => by
          obtain ⟨r', h3, e4, q'⟩ := (ih k2 hk e3 h2 h3).get
          obtain ⟨n, e5⟩ := whileS_inv e4
          have : whileF t b (n + 1) e hs = some (r', h3) := by
            unfold whileF
            rw [e1]
            simp only [e2]
            rcases hr with rfl | rfl <;> exact e5
          rw [whileS_of this]
          exact q'
        cases r with
        | nx e3 => exact again (.inl rfl) q
        | ct e3 => exact again (.inr rfl) q
        | bk e3 => exact fin (r := .nx e3) (h2 := h2) (by unfold whileF; rw [e1]; simp only [e2]) q
        | ret d => exact fin (r := .ret d) (h2 := h2) (by unfold whileF; rw [e1]; simp only [e2]) q
        | exc x e3 => exact fin (r := .exc x e3) (h2 := h2) (by unfold whileF; rw [e1]; simp only [e2]) q
end
/-! ## comprehensions -/
section
variable {hs : Hs}
theorem wp_comp_at {ok : Hs → Prop} {turn : D → M (Option D)} {items : List D} {Q : List D → Hs → Prop} (I : Nat → List D → Hs → Prop)
    (step : ∀ i d acc hs, items[i]? = some d → I i acc hs → ok hs ∧ Wp (turn d hs) (okq fun o h => match o with
      | some y => acc.length < sizeLine ∧ I (i + 1) (acc ++ [y]) h
      | none => I (i + 1) acc h)) (fin : ∀ acc hs, I items.length acc hs → ok hs ∧ Q acc hs) :
    ∀ (k i : Nat) (acc : List D) (hs : Hs), items.length - i = k → i ≤ items.length → I i acc hs → Wp (compS ok turn (items.drop i) acc hs) Q
  | 0, i, acc, hs, hk, hi, h => by
    have : i = items.length := by omega
    subst this
    rw [List.drop_length]
    obtain ⟨h1, h2⟩ := fin acc hs h
    simp only [compS, if_pos h1]
    exact h2
  | k + 1, i, acc, hs, hk, hi, h => by
    have hlt : i < items.length := by omega
    rw [List.drop_eq_getElem_cons hlt]
    obtain ⟨h1, h2⟩ := step i items[i] acc hs (by simp [hlt]) h
    simp only [compS, if_pos h1]
    obtain ⟨r, h', e1, q⟩ := h2.get
    rw [e1]
    cases r with
    | error x => exact q.elim
    | ok o =>
      cases o with
      | none => exact wp_comp_at I step fin k (i + 1) acc h' (by omega) (by omega) q
      | some y =>
        obtain ⟨q1, q2⟩ : acc.length < sizeLine ∧ I (i + 1) (acc ++ [y]) h' := q
        simp only [if_pos q1]
        exact wp_comp_at I step fin k (i + 1) _ h' (by omega) (by omega) q2
/-- THE RULE for a comprehension: an invariant by the turn and what is gathered -/
theorem wp_comp {ok : Hs → Prop} {turn : D → M (Option D)} {items : List D} {Q : List D → Hs → Prop} (I : Nat → List D → Hs → Prop) (h0 : I 0 [] hs)
    (step : ∀ i d acc hs, items[i]? = some d → I i acc hs → ok hs ∧ Wp (turn d hs) (okq fun o h => match o with
      | some y => acc.length < sizeLine ∧ I (i + 1) (acc ++ [y]) h
      | none => I (i + 1) acc h)) (fin : ∀ acc hs, I items.length acc hs → ok hs ∧ Q acc hs) : Wp (compS ok turn items [] hs) Q := by
  have q := wp_comp_at I step fin _ 0 [] hs rfl (Nat.zero_le _) h0
  simpa using q
variable {e : Ev} {Q : Except Ex D → Hs → Prop}
@[simp] theorem wp_compM {own : List Nat} {t : Tg} {fi : Ev → M Src} {ft : Ev → M Bool} {fe : Ev → M D} : Wp (compM own t fi ft fe e hs) Q = Wp (fi e hs) (onOk (fun src => M.bind (M.lift (compS src.ok (turnM t ft fe (wipeE e own)) src.items [])) fun xs => M.lift (newL xs)) Q) := by
  unfold compM; rw [wp_bind]
def turnK (fe : Ev → M D) (e : Ev) (b : Bool) : M (Option D) := if b = true then M.bind (fe e) fun y => M.pure (some y) else M.pure none
@[simp] theorem turnM_one {i : Nat} {ft : Ev → M Bool} {fe : Ev → M D} {ew : Ev} {d : D} : turnM (.one i) ft fe ew d = M.bind (ft (ew.set i (some d))) (turnK fe (ew.set i (some d))) := rfl
@[simp] theorem turnM_many {is : List Nat} {ft : Ev → M Bool} {fe : Ev → M D} {ew : Ev} {ds : List D} {Q : Except Ex (Option D) → Hs → Prop} : Wp (turnM (.many is) ft fe ew (.tup ds) hs) Q = (is.length = ds.length ∧ Wp (ft (sets ew is ds) hs) (onOk (turnK fe (sets ew is ds)) Q)) := by
  unfold turnM asg
  by_cases h : is.length = ds.length
  · simp only [h, if_true, true_and]
    exact wp_bind
  · simp [h]
@[simp] theorem turnK_true {fe : Ev → M D} : turnK fe e true = M.bind (fe e) fun y => M.pure (some y) := rfl
@[simp] theorem turnK_false {fe : Ev → M D} : turnK fe e false = M.pure none := rfl
@[simp] theorem wipeE_nil : wipeE e [] = e := rfl
@[simp] theorem wipeE_cons {v : Nat} {vs : List Nat} : wipeE e (v :: vs) = (wipeE e vs).set v none := rfl
end
/-! ## what is walked -/
section
variable {hs : Hs} {e : Ev} {Q : Except Ex Src → Hs → Prop}
@[simp] theorem wp_seqM {f : Ev → M D} : Wp (seqM f e hs) Q = Wp (f e hs) (onOk seqSrc Q) := by
  unfold seqM; rw [wp_bind]
@[simp] theorem wp_rngM {k : Nat} {fs : Ev → M (List D)} : Wp (rngM k fs e hs) Q = Wp (fs e hs) (onOk (fun xs => if xs.length = k then rngSrc xs else M.stuck) Q) := by
  unfold rngM; rw [wp_bind]
@[simp] theorem wp_src_tup {xs : List D} : Wp (seqSrc (.tup xs) hs) Q = Q (.ok ⟨xs, fun _ => True⟩) hs := rfl
@[simp] theorem wp_src_frl {xs : List D} : Wp (seqSrc (.frl xs) hs) Q = Q (.ok ⟨xs, fun _ => True⟩) hs := rfl
@[simp] theorem wp_src_str {x : Str} : Wp (seqSrc (.str x) hs) Q = Q (.ok ⟨signs x, fun _ => True⟩) hs := rfl
@[simp] theorem wp_src_loc {n : Nat} : Wp (seqSrc (.loc n) hs) Q = (∃ xs, cell hs n = some (.lst xs) ∧ Q (.ok ⟨xs, fun h => cell h n = some (.lst xs)⟩) hs) := by
  unfold seqSrc
  simp only [cell_eq]
  cases h : cell hs n with
  | none => simp
  | some o => cases o <;> simp
@[simp] theorem wp_rng1 {j : Int} : Wp (rngSrc [.int j] hs) Q = ((-(2 ^ 62) ≤ j ∧ j < 2 ^ 62) ∧ Q (.ok ⟨intL 0 j.toNat, fun _ => True⟩) hs) := by
  unfold rngSrc
  simp only
  by_cases h : -(2 ^ 62) ≤ j ∧ j < 2 ^ 62
  · rw [if_pos h]; simp only [h, true_and]; rfl
  · rw [if_neg h]; simp only [h, false_and]; rfl
@[simp] theorem wp_rng2 {i j : Int} : Wp (rngSrc [.int i, .int j] hs) Q = (((-(2 ^ 62) ≤ i ∧ i < 2 ^ 62) ∧ (-(2 ^ 62) ≤ j ∧ j < 2 ^ 62)) ∧ Q (.ok ⟨intL i (j - i).toNat, fun _ => True⟩) hs) := by
  unfold rngSrc
  simp only
  by_cases h : (-(2 ^ 62) ≤ i ∧ i < 2 ^ 62) ∧ (-(2 ^ 62) ≤ j ∧ j < 2 ^ 62)
  · rw [if_pos h]; simp only [h, true_and]; rfl
  · rw [if_neg h]; simp only [h, false_and]; rfl
@[simp] theorem wp_rng3 {i j c : Int} : Wp (rngSrc3 [.int i, .int j, .int c] hs) Q = (((0 < c ∧ c < 1073741824) ∧ Builtin.Range.small i j c = true ∧ 0 ≤ Builtin.Range.rangeSize i j c) ∧ Q (.ok ⟨stepL i c (Builtin.Range.rangeSize i j c).toNat, fun _ => True⟩) hs) := by
  unfold rngSrc3
  simp only
  by_cases h : (0 < c ∧ c < 1073741824) ∧ Builtin.Range.small i j c = true ∧ 0 ≤ Builtin.Range.rangeSize i j c
  · rw [if_pos h]; simp only [h, true_and]; rfl
  · rw [if_neg h]; simp only [h, false_and]; rfl
@[simp] theorem wp_enum_tup {xs : List D} : Wp (enumSrc [.tup xs] hs) Q = Q (.ok ⟨enumL 0 xs, fun _ => True⟩) hs := rfl
@[simp] theorem wp_enum_frl {xs : List D} : Wp (enumSrc [.frl xs] hs) Q = Q (.ok ⟨enumL 0 xs, fun _ => True⟩) hs := rfl
@[simp] theorem wp_enum_loc {n : Nat} : Wp (enumSrc [.loc n] hs) Q = (∃ xs, cell hs n = some (.lst xs) ∧ Q (.ok ⟨enumL 0 xs, fun h => cell h n = some (.lst xs)⟩) hs) := by
  unfold enumSrc seqAt
  simp only [cell_eq]
  cases h : cell hs n with
  | none => simp
  | some o => cases o <;> simp
@[simp] theorem wp_zip_tup {xs ys : List D} : Wp (zipSrc [.tup xs, .tup ys] hs) Q = Q (.ok ⟨zipL xs ys, fun _ => True ∧ True⟩) hs := rfl
theorem wp_zip_loc {n m : Nat} : Wp (zipSrc [.loc n, .loc m] hs) Q = (∃ xs ys, cell hs n = some (.lst xs) ∧ cell hs m = some (.lst ys) ∧ Q (.ok ⟨zipL xs ys, fun h => cell h n = some (.lst xs) ∧ cell h m = some (.lst ys)⟩) hs) := by
  unfold zipSrc seqAt
  simp only [cell_eq]
  cases h : cell hs n with
  | none => simp
  | some o =>
    cases h2 : cell hs m with
    | none => cases o <;> simp
    | some o2 => cases o <;> cases o2 <;> simp [bothTup]
theorem enumL_at {xs : List D} {i : Nat} {d : D} (h : (enumL 0 xs)[i]? = some d) : ∃ x, xs[i]? = some x ∧ d = .tup [.int (i : Nat), x] := by
  rw [enumL_get] at h
  obtain ⟨x, e, rfl⟩ := Option.map_eq_some_iff.mp h
  exact ⟨x, e, by simp⟩
theorem intL_at {lo : Int} {n i : Nat} {d : D} (h : (intL lo n)[i]? = some d) : i < n ∧ d = .int (lo + i) := by
  have hi : i < n := by
    have := (List.getElem?_eq_some_iff.mp h).1
    simpa [intL_len] using this
  rw [intL_get hi] at h
  exact ⟨hi, (Option.some.inj h).symm⟩
end
/-! ## what stays -/
/-- the heap has grown, written at places of S alone -/
structure Gr (S : List Nat) (hs h : Hs) : Prop where
  le : hs.length ≤ h.length
  at_ : ∀ n, n < hs.length → n ∉ S → cell h n = cell hs n
theorem Gr.refl {S : List Nat} {hs : Hs} : Gr S hs hs := ⟨Nat.le_refl _, fun _ _ _ => rfl⟩
theorem Gr.trans {S : List Nat} {a b c : Hs} (h : Gr S a b) (k : Gr S b c) : Gr S a c := ⟨Nat.le_trans h.le k.le, fun n hn hS => (k.at_ n (Nat.lt_of_lt_of_le hn h.le) hS).trans (h.at_ n hn hS)⟩
theorem Gr.push {S : List Nat} {hs : Hs} {o : O} : Gr S hs (hs ++ [o]) := ⟨by simp, fun n hn _ => cell_push_lt hn⟩
theorem Gr.app {S : List Nat} {hs ys : Hs} : Gr S hs (hs ++ ys) := ⟨by simp, fun n hn _ => cell_app_lt hn⟩
theorem Gr.set {S : List Nat} {hs : Hs} {n : Nat} {o : O} (h : n ∈ S) : Gr S hs (hs.set n o) := ⟨by simp, fun m _ hm => cell_set_ne (fun q => hm (by rw [← q]; exact h))⟩
theorem Gr.get {S : List Nat} {hs h : Hs} (g : Gr S hs h) {n : Nat} {o : O} (e : cell hs n = some o) (hn : n ∉ S) : cell h n = some o := by
  rw [g.at_ n (cell_lt e) hn]; exact e
theorem Gr.mono {S T : List Nat} {hs h : Hs} (g : Gr S hs h) (hS : ∀ n ∈ S, n ∈ T) : Gr T hs h := ⟨g.le, fun n hn hT => g.at_ n hn fun q => hT (hS n q)⟩
/-! ## reading and writing -/
section
variable {hs : Hs} {Q : D → Hs → Prop}
@[simp] theorem wp_ix_loc {n : Nat} {i : Int} : Wp (ixD (.loc n) (.int i) hs) Q = (∃ xs, cell hs n = some (.lst xs) ∧ ∃ d, atI xs i = some d ∧ Q d hs) := by
  unfold ixD listOf
  simp only [cell_eq]
  cases h : cell hs n with
  | none => simp
  | some o =>
    cases o <;> simp
    rename_i xs
    cases h2 : atI xs i <;> simp
@[simp] theorem wp_ix_tup {xs : List D} {i : Int} : Wp (ixD (.tup xs) (.int i) hs) Q = (∃ d, atI xs i = some d ∧ Q d hs) := by
  unfold ixD
  simp only
  cases h2 : atI xs i <;> simp
@[simp] theorem wp_ix_frl {xs : List D} {i : Int} : Wp (ixD (.frl xs) (.int i) hs) Q = (∃ d, atI xs i = some d ∧ Q d hs) := by
  unfold ixD listOf
  simp only
  cases h2 : atI xs i <;> simp
theorem atI_lit {α : Type} {xs : List α} {k : Nat} : atI xs (k : Int) = xs[k]? := by
  unfold atI ixN
  rw [if_pos (by omega)]
  by_cases h : k < xs.length
  · rw [if_pos (by omega)]; rfl
  · rw [if_neg (by omega), List.getElem?_eq_none (by omega)]; rfl
@[simp] theorem atI_0 {α : Type} {xs : List α} : atI xs (0 : Int) = xs[0]? := atI_lit (k := 0)
@[simp] theorem atI_1 {α : Type} {xs : List α} : atI xs (1 : Int) = xs[1]? := atI_lit (k := 1)
@[simp] theorem atI_2 {α : Type} {xs : List α} : atI xs (2 : Int) = xs[2]? := atI_lit (k := 2)
@[simp] theorem atI_3 {α : Type} {xs : List α} : atI xs (3 : Int) = xs[3]? := atI_lit (k := 3)
@[simp] theorem atI_4 {α : Type} {xs : List α} : atI xs (4 : Int) = xs[4]? := atI_lit (k := 4)
@[simp] theorem atI_5 {α : Type} {xs : List α} : atI xs (5 : Int) = xs[5]? := atI_lit (k := 5)
@[simp] theorem atI_6 {α : Type} {xs : List α} : atI xs (6 : Int) = xs[6]? := atI_lit (k := 6)
@[simp] theorem atI_7 {α : Type} {xs : List α} : atI xs (7 : Int) = xs[7]? := atI_lit (k := 7)
@[simp] theorem atI_8 {α : Type} {xs : List α} : atI xs (8 : Int) = xs[8]? := atI_lit (k := 8)
@[simp] theorem atI_9 {α : Type} {xs : List α} : atI xs (9 : Int) = xs[9]? := atI_lit (k := 9)
@[simp] theorem atI_10 {α : Type} {xs : List α} : atI xs (10 : Int) = xs[10]? := atI_lit (k := 10)
@[simp] theorem atI_11 {α : Type} {xs : List α} : atI xs (11 : Int) = xs[11]? := atI_lit (k := 11)
@[simp] theorem atI_12 {α : Type} {xs : List α} : atI xs (12 : Int) = xs[12]? := atI_lit (k := 12)
theorem atI_nat {α : Type} {xs : List α} {i : Int} {x : α} (h : xs[i.toNat]? = some x) (h0 : 0 ≤ i) : atI xs i = some x := by
  have hl := (List.getElem?_eq_some_iff.mp h).1
  unfold atI ixN
  rw [if_pos h0, if_pos (by omega)]
  exact h
theorem ixN_nat {n : Nat} {i : Int} (h0 : 0 ≤ i) (h : i < n) : ixN n i = some i.toNat := by
  unfold ixN
  rw [if_pos h0, if_pos h]
@[simp] theorem wp_setK {n : Nat} {i : Int} {v : D} {e : Ev} {R : Fl → Hs → Prop} : Wp (setK (.loc n) (.int i) v e hs) R = (∃ xs, cell hs n = some (.lst xs) ∧ ∃ j, ixN xs.length i = some j ∧ R (.nx e) (hs.set n (.lst (xs.set j v)))) := by
  unfold setK setIxD
  simp only [cell_eq]
  cases h : cell hs n with
  | none => simp
  | some o =>
    cases o <;> simp
    rename_i xs
    cases h2 : ixN xs.length i <;> simp
theorem ixN_lit {n k : Nat} (h : k < n) : ixN n (k : Int) = some k := by
  unfold ixN
  rw [if_pos (by omega), if_pos (by omega)]; rfl
theorem ixN_of {n k : Nat} : ixN n (k : Int) = if k < n then some k else none := by
  by_cases h : k < n
  · rw [if_pos h]; exact ixN_lit h
  · rw [if_neg h]
    unfold ixN
    rw [if_pos (by omega), if_neg (by omega)]
@[simp] theorem ixN_0 {n : Nat} : ixN n (0 : Int) = if 0 < n then some 0 else none := ixN_of (k := 0)
@[simp] theorem ixN_1 {n : Nat} : ixN n (1 : Int) = if 1 < n then some 1 else none := ixN_of (k := 1)
@[simp] theorem ixN_2 {n : Nat} : ixN n (2 : Int) = if 2 < n then some 2 else none := ixN_of (k := 2)
@[simp] theorem ixN_3 {n : Nat} : ixN n (3 : Int) = if 3 < n then some 3 else none := ixN_of (k := 3)
@[simp] theorem ixN_4 {n : Nat} : ixN n (4 : Int) = if 4 < n then some 4 else none := ixN_of (k := 4)
@[simp] theorem ixN_5 {n : Nat} : ixN n (5 : Int) = if 5 < n then some 5 else none := ixN_of (k := 5)
@[simp] theorem ixN_6 {n : Nat} : ixN n (6 : Int) = if 6 < n then some 6 else none := ixN_of (k := 6)
@[simp] theorem ixN_7 {n : Nat} : ixN n (7 : Int) = if 7 < n then some 7 else none := ixN_of (k := 7)
@[simp] theorem ixN_8 {n : Nat} : ixN n (8 : Int) = if 8 < n then some 8 else none := ixN_of (k := 8)
@[simp] theorem ixN_9 {n : Nat} : ixN n (9 : Int) = if 9 < n then some 9 else none := ixN_of (k := 9)
@[simp] theorem ixN_10 {n : Nat} : ixN n (10 : Int) = if 10 < n then some 10 else none := ixN_of (k := 10)
@[simp] theorem ixN_11 {n : Nat} : ixN n (11 : Int) = if 11 < n then some 11 else none := ixN_of (k := 11)
@[simp] theorem ixN_12 {n : Nat} : ixN n (12 : Int) = if 12 < n then some 12 else none := ixN_of (k := 12)
@[simp] theorem wp_len_loc {n : Nat} : Wp (lenD [.loc n] hs) Q = (∃ xs, cell hs n = some (.lst xs) ∧ Q (.int xs.length) hs) := by
  unfold lenD listOf
  simp only [cell_eq]
  cases h : cell hs n with
  | none => simp
  | some o => cases o <;> simp
@[simp] theorem wp_len_tup {xs : List D} : Wp (lenD [.tup xs] hs) Q = Q (.int xs.length) hs := rfl
@[simp] theorem wp_len_frl {xs : List D} : Wp (lenD [.frl xs] hs) Q = Q (.int xs.length) hs := rfl
@[simp] theorem wp_int {i : Int} : Wp (intD [.int i] hs) Q = Q (.int i) hs := rfl
@[simp] theorem wp_intS {x : Str} : Wp (intD [.str x] hs) Q = (∃ n, intTxt x = some n ∧ Q (.int n) hs) := by
  unfold intD
  simp only
  cases h : intTxt x <;> simp
@[simp] theorem wp_len_str {x : Str} : Wp (lenD [.str x] hs) Q = (x.length ≤ sizeLine ∧ Q (.int x.length) hs) := by
  unfold lenD
  simp only
  by_cases h : x.length ≤ sizeLine <;> simp [h]
@[simp] theorem wp_ix_str {x : Str} {i : Int} : Wp (ixD (.str x) (.int i) hs) Q = (x.length ≤ sizeLine ∧ ∃ c, atI x.cps.toList i = some c ∧ Q (.str ⟨#[c]⟩) hs) := by
  unfold ixD
  simp only
  by_cases h : x.length ≤ sizeLine
  · simp only [h, if_true, true_and]
    cases h2 : atI x.cps.toList i <;> simp
  · simp [h]
@[simp] theorem wp_strI {i : Int} : Wp (strD [.int i] hs) Q = (i.natAbs.log2 < 1920 ∧ Q (.str (toString i)) hs) := by
  unfold strD
  simp only
  by_cases h : i.natAbs.log2 < 1920
  · rw [if_pos h]; simp only [h, true_and]; rfl
  · rw [if_neg h]; simp only [h, false_and]; rfl
@[simp] theorem wp_join_loc {a : Str} {n : Nat} : Wp (joinD (.str a) [.loc n] hs) Q = (∃ xs, cell hs n = some (.lst xs) ∧ ∃ ys, strsD xs = some ys ∧ joinOk a ys ∧ Q (.str (Txt.join a ys)) hs) := by
  unfold joinD itemsOf listOf
  simp only [cell_eq]
  cases h : cell hs n with
  | none => simp
  | some o =>
    cases o <;> simp
    rename_i xs
    cases e : strsD xs with
    | none => simp
    | some ys => by_cases hj : joinOk a ys <;> simp [hj]
theorem strsD_map : ∀ ys : List Str, strsD (ys.map .str) = some ys
  | [] => rfl
  | y :: ys => by simp [strsD, strsD_map ys]
@[simp] theorem wp_split {a b : Str} : Wp (splitD (.str a) [.str b] hs) Q = (((b.length == 0) = false ∧ a.length + 2 ≤ sizeLine) ∧ Q (.loc hs.length) (hs ++ [.lst ((Txt.split a b).map .str)])) := by
  unfold splitD newL
  simp only
  by_cases h : (b.length == 0) = false ∧ a.length + 2 ≤ sizeLine
  · rw [if_pos h]; simp only [h, true_and]; rfl
  · rw [if_neg h]; simp only [h, false_and]; rfl
@[simp] theorem wp_str_add {x y : Str} : Wp (binD .Add (.str x) (.str y) hs) Q = (x.length + y.length ≤ sizeLine ∧ Q (.str (x ++ y)) hs) := by
  unfold binD addD
  simp only
  by_cases h : x.length + y.length ≤ sizeLine
  · rw [if_pos h]; simp only [h, true_and]; rfl
  · rw [if_neg h]; simp only [h, false_and]; rfl
@[simp] theorem wp_str_mul {x : Str} {k : Int} : Wp (binD .Mult (.str x) (.int k) hs) Q = ((0 ≤ k ∧ k ≤ 1000 ∧ x.length ≤ 1000) ∧ Q (.str (strTimes x k.toNat)) hs) := by
  unfold binD mulD
  simp only
  by_cases h : 0 ≤ k ∧ k ≤ 1000 ∧ x.length ≤ 1000
  · rw [if_pos h]; simp only [h, true_and]; rfl
  · rw [if_neg h]; simp only [h, false_and]; rfl
@[simp] theorem wp_chk_str {x : Str} {Q : Except Ex Unit → Hs → Prop} : Wp (chkTy "str" (.str x) hs) Q = Q (.ok ()) hs := by
  unfold chkTy tyD
  simp
@[simp] theorem in_ss {x y : Str} : inD hs (.str x) (.str y) = some (!(Builtin.Str.occurrences y x 0 y.length 1).isEmpty) := rfl
@[simp] theorem truM_str {x : Str} {Q : Except Ex Bool → Hs → Prop} : Wp (truM (.str x) hs) Q = (x.length ≤ sizeLine ∧ Q (.ok ((x.length : Int) != 0)) hs) := by
  unfold truM truD
  by_cases h : x.length ≤ sizeLine <;> simp [h]
@[simp] theorem wp_abs {i : Int} : Wp (absD [.int i] hs) Q = Q (.int (if i < 0 then -i else i)) hs := rfl
@[simp] theorem wp_max {i j : Int} : Wp (maxD [.int i, .int j] hs) Q = Q (.int (if j > i then j else i)) hs := rfl
@[simp] theorem wp_min {i j : Int} : Wp (minD [.int i, .int j] hs) Q = Q (.int (if j < i then j else i)) hs := rfl
@[simp] theorem wp_tuple_tup {xs : List D} : Wp (tupleD [.tup xs] hs) Q = Q (.tup xs) hs := rfl
@[simp] theorem wp_tuple_frl {xs : List D} : Wp (tupleD [.frl xs] hs) Q = Q (.tup xs) hs := rfl
@[simp] theorem wp_tuple_loc {n : Nat} : Wp (tupleD [.loc n] hs) Q = (∃ xs, cell hs n = some (.lst xs) ∧ Q (.tup xs) hs) := by
  unfold tupleD listOf
  simp only [cell_eq]
  cases h : cell hs n with
  | none => simp
  | some o => cases o <;> simp
@[simp] theorem wp_list_tup {xs : List D} : Wp (listD [.tup xs] hs) Q = Q (.loc hs.length) (hs ++ [.lst xs]) := rfl
@[simp] theorem wp_list_loc {n : Nat} : Wp (listD [.loc n] hs) Q = (∃ xs, cell hs n = some (.lst xs) ∧ Q (.loc hs.length) (hs ++ [.lst xs])) := by
  unfold listD listOf newL
  simp only [cell_eq]
  cases h : cell hs n with
  | none => simp
  | some o => cases o <;> simp
@[simp] theorem wp_all_loc {n : Nat} : Wp (allD [.loc n] hs) Q = (∃ xs, cell hs n = some (.lst xs) ∧ ∃ bs, flags xs = some bs ∧ Q (.bl (bs.all id)) hs) := by
  unfold allD listOf
  simp only [cell_eq]
  cases h : cell hs n with
  | none => simp
  | some o =>
    cases o <;> simp
    rename_i xs
    cases flags xs <;> simp
@[simp] theorem wp_any_loc {n : Nat} : Wp (anyD [.loc n] hs) Q = (∃ xs, cell hs n = some (.lst xs) ∧ ∃ bs, flags xs = some bs ∧ Q (.bl (bs.any id)) hs) := by
  unfold anyD listOf
  simp only [cell_eq]
  cases h : cell hs n with
  | none => simp
  | some o =>
    cases o <;> simp
    rename_i xs
    cases flags xs <;> simp
theorem flags_bl : ∀ (bs : List Bool), flags (bs.map .bl) = some bs
  | [] => rfl
  | b :: bs => by simp [flags, flags_bl bs]
@[simp] theorem wp_app_loc {n : Nat} {d : D} : Wp (appendD (.loc n) [d] hs) Q = (∃ xs, cell hs n = some (.lst xs) ∧ xs.length < sizeLine ∧ Q .non (hs.set n (.lst (xs ++ [d])))) := by
  unfold appendD
  simp only [cell_eq]
  cases h : cell hs n with
  | none => simp
  | some o =>
    cases o <;> simp
    rename_i xs
    by_cases hz : xs.length < sizeLine <;> simp [hz]
@[simp] theorem wp_ext_loc {n k : Nat} : Wp (extendD (.loc n) [.loc k] hs) Q = (∃ xs ys, cell hs n = some (.lst xs) ∧ cell hs k = some (.lst ys) ∧ xs.length + ys.length ≤ sizeLine ∧ Q .non (hs.set n (.lst (xs ++ ys)))) := by
  unfold extendD
  simp only [cell_eq]
  cases h : cell hs n with
  | none => simp
  | some o =>
    cases h2 : cell hs k with
    | none => cases o <;> simp
    | some o2 =>
      cases o <;> cases o2 <;> simp
      rename_i xs ys
      by_cases hz : xs.length + ys.length ≤ sizeLine <;> simp [hz]
@[simp] theorem wp_rev_tup {xs : List D} : Wp (revD (.tup xs) hs) Q = Q (.tup xs.reverse) hs := rfl
@[simp] theorem wp_rev_frl {xs : List D} : Wp (revD (.frl xs) hs) Q = Q (.loc hs.length) (hs ++ [.lst xs.reverse]) := rfl
@[simp] theorem wp_rev_loc {n : Nat} : Wp (revD (.loc n) hs) Q = (∃ xs, cell hs n = some (.lst xs) ∧ Q (.loc hs.length) (hs ++ [.lst xs.reverse])) := by
  unfold revD listOf newL
  simp only [cell_eq]
  cases h : cell hs n with
  | none => simp
  | some o => cases o <;> simp
@[simp] theorem wp_max_loc {n : Nat} : Wp (maxD [.loc n] hs) Q = (∃ xs, cell hs n = some (.lst xs) ∧ ∃ a ns, intsD xs = some (a :: ns) ∧ Q (.int (topI (a :: ns))) hs) := by
  unfold maxD ofInts listOf
  simp only [cell_eq]
  cases h : cell hs n with
  | none => simp
  | some o =>
    cases o <;> simp
    rename_i xs
    cases e : intsD xs with
    | none => simp
    | some ns =>
      cases ns with
      | nil => simp
      | cons b r =>
        simp only [Option.some.injEq, List.cons.injEq]
        exact ⟨fun q => ⟨b, r, ⟨rfl, rfl⟩, q⟩, fun ⟨_, _, ⟨e1, e2⟩, q⟩ => by subst e1; subst e2; exact q⟩
@[simp] theorem wp_min_loc {n : Nat} : Wp (minD [.loc n] hs) Q = (∃ xs, cell hs n = some (.lst xs) ∧ ∃ a ns, intsD xs = some (a :: ns) ∧ Q (.int (lowI (a :: ns))) hs) := by
  unfold minD ofInts listOf
  simp only [cell_eq]
  cases h : cell hs n with
  | none => simp
  | some o =>
    cases o <;> simp
    rename_i xs
    cases e : intsD xs with
    | none => simp
    | some ns =>
      cases ns with
      | nil => simp
      | cons b r =>
        simp only [Option.some.injEq, List.cons.injEq]
        exact ⟨fun q => ⟨b, r, ⟨rfl, rfl⟩, q⟩, fun ⟨_, _, ⟨e1, e2⟩, q⟩ => by subst e1; subst e2; exact q⟩
theorem wp_pop_loc {n : Nat} {xs : List D} {y : D} (h : cell hs n = some (.lst (xs ++ [y]))) : Wp (popD (.loc n) [] hs) Q = Q y (hs.set n (.lst xs)) := by
  unfold popD
  simp only [cell_eq, h]
  simp
theorem wp_repr {d : D} {p : PyData} (h : d.data hs = some p) (h1 : p.showable = true) (h2 : p.hasDict = false) (h3 : p.depth ≤ 60) (h4 : p.shown.length ≤ sizeLine) : Wp (reprD [d] hs) Q = Q (.str p.shown) hs := by
  unfold reprD
  simp [h, h1, h2, h3, h4]
theorem wp_index {x y : D} {ps : List PyData} {p : PyData} {j : Nat} (h1 : x.data hs = some (.list ps)) (h2 : y.data hs = some p) (s1 : SeqAt.shaped (.list ps) = true) (s2 : SeqAt.shaped p = true) (hj : ps.findIdx? (fun z => PyData.eqv z p) = some j) : Wp (indexD x [y] hs) Q = Q (.int (j : Nat)) hs := by
  unfold indexD
  simp [h1, h2, s1, s2, hj]
@[simp] theorem wp_nilDict {e : Ev} {Q : Except Ex D → Hs → Prop} : Wp (nilDict e hs) Q = Q (.ok (.loc hs.length)) (hs ++ [.dct []]) := rfl
@[simp] theorem wp_chk_lst {n : Nat} {Q : Except Ex Unit → Hs → Prop} : Wp (chkTy "list" (.loc n) hs) Q = ((∃ xs, cell hs n = some (.lst xs)) ∧ Q (.ok ()) hs) := by
  unfold chkTy tyD
  simp only [cell_eq]
  cases h : cell hs n with
  | none => simp
  | some o => cases o <;> simp
@[simp] theorem wp_slice_tup {xs : List D} {lo hi : Option Int} : Wp (sliceD (.tup xs) lo hi hs) Q = Q (.tup (cutD xs lo hi)) hs := rfl
@[simp] theorem wp_slice_frl {xs : List D} {lo hi : Option Int} : Wp (sliceD (.frl xs) lo hi hs) Q = Q (.loc hs.length) (hs ++ [.lst (cutD xs lo hi)]) := rfl
@[simp] theorem wp_slice_loc {n : Nat} {lo hi : Option Int} : Wp (sliceD (.loc n) lo hi hs) Q = (∃ xs, cell hs n = some (.lst xs) ∧ Q (.loc hs.length) (hs ++ [.lst (cutD xs lo hi)])) := by
  unfold sliceD listOf newL
  simp only [cell_eq]
  cases h : cell hs n with
  | none => simp
  | some o => cases o <;> simp
@[simp] theorem wp_ans {c : Bool} : Wp (answers (some c) hs) Q = Q (.bl c) hs := rfl
theorem wp_tup_mul {xs : List D} {k : Int} (h : 0 ≤ k ∧ k ≤ 1000 ∧ xs.length ≤ 1000) : Wp (binD .Mult (.tup xs) (.int k) hs) Q = Q (.tup (List.replicate k.toNat xs).flatten) hs := by
  unfold binD mulD
  simp only
  rw [if_pos h]; rfl
@[simp] theorem wp_tup_add {xs ys : List D} : Wp (binD .Add (.tup xs) (.tup ys) hs) Q = (xs.length + ys.length ≤ sizeLine ∧ Q (.tup (xs ++ ys)) hs) := by
  unfold binD addD
  simp only
  by_cases h : xs.length + ys.length ≤ sizeLine
  · rw [if_pos h]; simp only [h, true_and]; rfl
  · rw [if_neg h]; simp only [h, false_and]; rfl
@[simp] theorem wp_lst_add {n m : Nat} : Wp (binD .Add (.loc n) (.loc m) hs) Q = (∃ xs ys, cell hs n = some (.lst xs) ∧ cell hs m = some (.lst ys) ∧ xs.length + ys.length ≤ sizeLine ∧ Q (.loc hs.length) (hs ++ [.lst (xs ++ ys)])) := by
  unfold binD addD newL
  simp only [cell_eq]
  cases h : cell hs n with
  | none => simp
  | some o =>
    cases h2 : cell hs m with
    | none => cases o <;> simp
    | some o2 =>
      cases o <;> cases o2 <;> simp
      rename_i xs ys
      by_cases hz : xs.length + ys.length ≤ sizeLine <;> simp [hz]
/-! numbers -/
@[simp] theorem add_ii {i j : Int} : binD .Add (.int i) (.int j) = P.pure (.int (i + j)) := rfl
@[simp] theorem sub_ii {i j : Int} : binD .Sub (.int i) (.int j) = P.pure (.int (i - j)) := rfl
def mulOk (i j : Int) : Prop := ((-(2 ^ 64) < i ∧ i < 2 ^ 64) ∨ (-(2 ^ 64) < j ∧ j < 2 ^ 64)) ∨ (i.natAbs < 2 ^ 9000 ∧ j.natAbs < 2 ^ 9000)
def divOk (j : Int) : Prop := 0 < j ∧ j.natAbs < 2 ^ 9000
def big : Nat := 2 ^ 9000
theorem small_big : 2 ^ 64 ≤ big := by decide +kernel
theorem mulOk.r {i j : Int} (h1 : -(2 ^ 64) < j) (h2 : j < 2 ^ 64) : mulOk i j := .inl (.inr ⟨h1, h2⟩)
theorem mulOk.l {i j : Int} (h1 : -(2 ^ 64) < i) (h2 : i < 2 ^ 64) : mulOk i j := .inl (.inl ⟨h1, h2⟩)
theorem divOk.of {j : Int} (h1 : 0 < j) (h2 : j.natAbs < big) : divOk j := ⟨h1, h2⟩
theorem divOk.small {j : Int} (h1 : 0 < j) (h2 : j < 2 ^ 64) : divOk j := ⟨h1, Nat.lt_of_lt_of_le (by omega) small_big⟩
@[simp] theorem mul_ii {i j : Int} : Wp (binD .Mult (.int i) (.int j) hs) Q = (mulOk i j ∧ Q (.int (i * j)) hs) := by
  unfold binD mulD
  simp only
  unfold mulOk
  by_cases h : ((-(2 ^ 64) < i ∧ i < 2 ^ 64) ∨ (-(2 ^ 64) < j ∧ j < 2 ^ 64)) ∨ (i.natAbs < 2 ^ 9000 ∧ j.natAbs < 2 ^ 9000)
  · rw [if_pos h]; simp only [h, true_and]; rfl
  · rw [if_neg h]; simp only [h, false_and]; rfl
@[simp] theorem fdiv_ii {i j : Int} : Wp (binD .FloorDiv (.int i) (.int j) hs) Q = (divOk j ∧ Q (.int (i / j)) hs) := by
  unfold binD fdivD
  simp only
  unfold divOk
  by_cases h : 0 < j ∧ j.natAbs < 2 ^ 9000
  · rw [if_pos h]; simp only [h, true_and]; rfl
  · rw [if_neg h]; simp only [h, false_and]; rfl
@[simp] theorem mod_ii {i j : Int} : Wp (binD .Mod (.int i) (.int j) hs) Q = (0 < j ∧ Q (.int (i % j)) hs) := by
  unfold binD modD
  simp only
  by_cases h : 0 < j
  · rw [if_pos h]; simp only [h, true_and]; rfl
  · rw [if_neg h]; simp only [h, false_and]; rfl
@[simp] theorem pow_ii {i j : Int} : Wp (binD .Pow (.int i) (.int j) hs) Q = ((0 ≤ j ∧ j ≤ 1000000 ∧ i.natAbs < 2 ^ 64) ∧ Q (.int (i ^ j.toNat)) hs) := by
  unfold binD powD
  simp only
  by_cases h : 0 ≤ j ∧ j ≤ 1000000 ∧ i.natAbs < 2 ^ 64
  · rw [if_pos h]; simp only [h, true_and]; rfl
  · rw [if_neg h]; simp only [h, false_and]; rfl
@[simp] theorem lt_ii {i j : Int} : cmpD .Lt (.int i) (.int j) = P.pure (.bl (decide (i < j))) := rfl
@[simp] theorem le_ii {i j : Int} : cmpD .LtE (.int i) (.int j) = P.pure (.bl (decide (i ≤ j))) := rfl
@[simp] theorem gt_ii {i j : Int} : cmpD .Gt (.int i) (.int j) = P.pure (.bl (decide (j < i))) := rfl
@[simp] theorem ge_ii {i j : Int} : cmpD .GtE (.int i) (.int j) = P.pure (.bl (decide (j ≤ i))) := rfl
@[simp] theorem is_none {d : D} : cmpD .Is d .non = P.pure (.bl (isN d)) := by cases d <;> rfl
@[simp] theorem isnot_none {d : D} : cmpD .IsNot d .non = P.pure (.bl (!isN d)) := by cases d <;> rfl
@[simp] theorem is_bb {x y : Bool} : cmpD .Is (.bl x) (.bl y) = P.pure (.bl (decide (x = y))) := rfl
@[simp] theorem isnot_bb {x y : Bool} : cmpD .IsNot (.bl x) (.bl y) = P.pure (.bl (!decide (x = y))) := rfl
@[simp] theorem isN_str {x : Str} : isN (.str x) = false := rfl
@[simp] theorem isN_bl {b : Bool} : isN (.bl b) = false := rfl
@[simp] theorem isN_loc {n : Nat} : isN (.loc n) = false := rfl
@[simp] theorem isN_frl {xs : List D} : isN (.frl xs) = false := rfl
@[simp] theorem isN_non : isN .non = true := rfl
@[simp] theorem isN_int {i : Int} : isN (.int i) = false := rfl
@[simp] theorem isN_tup {xs : List D} : isN (.tup xs) = false := rfl
@[simp] theorem wp_cmpEq {a b : D} : Wp (cmpD .Eq a b hs) Q = Wp (answers (match eqD hs a b with | some c => some c | none => eqNil hs a b) hs) Q := rfl
@[simp] theorem wp_cmpNe {a b : D} : Wp (cmpD .NotEq a b hs) Q = Wp (answers ((eqD hs a b).map (!·)) hs) Q := rfl
@[simp] theorem wp_cmpIn {a b : D} : Wp (cmpD .In a b hs) Q = Wp (answers (inD hs a b) hs) Q := rfl
@[simp] theorem wp_cmpNotIn {a b : D} : Wp (cmpD .NotIn a b hs) Q = Wp (answers ((inD hs a b).map (!·)) hs) Q := rfl
end
end DL
set_option Elab.async false
set_option linter.all false
set_option maxRecDepth 100000
set_option maxHeartbeats 4000000
namespace DL
open PySem PySem.Spec PyProof.Rows L2

/-! ## the pot: drawing numbers -/
noncomputable def b__law_pot : Ev → S := (seqS (asgS (.one 1) (compM [2] (.one 2) (seqM (sliceM (varD 0) (fun _ => M.pure none) (fun v => M.bind ((fun _ => M.pure (.int 63)) v) partD))) (fun _ => M.pure true) (callM absD (consM (callM intD (consM (varD 2) (fun _ => M.pure []))) (fun _ => M.pure [])))))
  (seqS (retS (lstM (consM (varD 1) (consM (fun _ => M.pure (.int 0)) (consM (fun _ => M.pure (.int 0)) (consM (op2 (binD .Add) (fun _ => M.pure (.int 1)) (callM lenD (consM (varD 1) (fun _ => M.pure [])))) (consM (fun _ => M.pure (.int 0)) (fun _ => M.pure []))))))))
  nextS))
noncomputable def r__law_pot : List D → M D := runB 3 b__law_pot

noncomputable def b__law_draw : Ev → S := (seqS (ifS (andM (asTest (op2 (cmpD .Eq) (op2 ixD (varD 0) (fun _ => M.pure (.int 2))) (fun _ => M.pure (.int 0)))) (asTest (op2 (cmpD .Lt) (op2 ixD (varD 0) (fun _ => M.pure (.int 1))) (callM lenD (consM (op2 ixD (varD 0) (fun _ => M.pure (.int 0))) (fun _ => M.pure []))))))
  (seqS (asgS (.one 2) (op2 ixD (op2 ixD (varD 0) (fun _ => M.pure (.int 0))) (op2 ixD (varD 0) (fun _ => M.pure (.int 1)))))
  (seqS (setS (op2 (binD .Add) (op2 ixD (varD 0) (fun _ => M.pure (.int 1))) (fun _ => M.pure (.int 1))) (varD 0) (fun _ => M.pure (.int 1)))
  (seqS (setS (op2 (binD .Mod) (callM intD (consM (op2 (binD .Add) (op2 (binD .Add) (op2 (binD .Mult) (op2 ixD (varD 0) (fun _ => M.pure (.int 3))) (fun _ => M.pure (.int 69621))) (varD 2)) (fun _ => M.pure (.int 11))) (fun _ => M.pure []))) (fun _ => M.pure (.int 2147483629))) (varD 0) (fun _ => M.pure (.int 3)))
  (seqS (ifS (asTest (op2 (cmpD .GtE) (varD 2) (op2 (binD .Pow) (fun _ => M.pure (.int 10)) (fun _ => M.pure (.int 18)))))
  (seqS (setS (varD 2) (varD 0) (fun _ => M.pure (.int 2)))
  nextS)
  nextS)
  nextS))))
  nextS)
  (seqS (ifS (asTest (op2 (cmpD .Gt) (op2 ixD (varD 0) (fun _ => M.pure (.int 2))) (fun _ => M.pure (.int 0))))
  (seqS (asgS (.one 3) (op2 (binD .Mod) (callM intD (consM (op2 ixD (varD 0) (fun _ => M.pure (.int 2))) (fun _ => M.pure []))) (varD 1)))
  (seqS (setS (op2 (binD .FloorDiv) (op2 ixD (varD 0) (fun _ => M.pure (.int 2))) (varD 1)) (varD 0) (fun _ => M.pure (.int 2)))
  (seqS (retS (varD 3))
  nextS)))
  nextS)
  (seqS (setS (op2 (binD .Add) (op2 ixD (varD 0) (fun _ => M.pure (.int 4))) (fun _ => M.pure (.int 1))) (varD 0) (fun _ => M.pure (.int 4)))
  (seqS (asgS (.one 4) (op2 (binD .Mod) (callM intD (consM (op2 (binD .Mult) (callM intD (consM (op2 (binD .Add) (op2 ixD (varD 0) (fun _ => M.pure (.int 3))) (op2 (binD .Mult) (fun _ => M.pure (.int 7919)) (op2 ixD (varD 0) (fun _ => M.pure (.int 4))))) (fun _ => M.pure []))) (fun _ => M.pure (.int 48271))) (fun _ => M.pure []))) (fun _ => M.pure (.int 2147483647))))
  (seqS (asgS (.one 4) (op2 (binD .Mod) (callM intD (consM (op2 (binD .Mult) (varD 4) (op2 (binD .Add) (op2 (binD .FloorDiv) (varD 4) (fun _ => M.pure (.int 1009))) (fun _ => M.pure (.int 69621)))) (fun _ => M.pure []))) (fun _ => M.pure (.int 2147483647))))
  (seqS (asgS (.one 4) (op2 (binD .Mod) (callM intD (consM (op2 (binD .Mult) (varD 4) (op2 (binD .Add) (op2 (binD .FloorDiv) (varD 4) (fun _ => M.pure (.int 2003))) (fun _ => M.pure (.int 40692)))) (fun _ => M.pure []))) (fun _ => M.pure (.int 2147483399))))
  (seqS (retS (op2 (binD .Mod) (callM intD (consM (op2 (binD .FloorDiv) (varD 4) (fun _ => M.pure (.int 16))) (fun _ => M.pure []))) (varD 1)))
  nextS)))))))
noncomputable def r__law_draw : List D → M D := runB 5 b__law_draw

noncomputable def b__law_any : Ev → S := (seqS (retS (op2 ixD (varD 1) (callF 2 r__law_draw (consM (varD 0) (consM (callM lenD (consM (varD 1) (fun _ => M.pure []))) (fun _ => M.pure []))))))
  nextS)
noncomputable def r__law_any : List D → M D := runB 2 b__law_any
/-- the pot lies at p -/
def Pot (p : Nat) (hs : Hs) : Prop := ∃ (c : Nat) (cells : List Int) (a b s t : Int), c < p ∧ cell hs c = some (.lst (cells.map .int)) ∧ cell hs p = some (.lst [.loc c, .int a, .int b, .int s, .int t]) ∧ 0 ≤ a
theorem Pot.lt {p : Nat} {hs : Hs} (h : Pot p hs) : p < hs.length := by
  obtain ⟨c, cells, a, b, s, t, _, _, h, _⟩ := h
  exact cell_lt h
/-- grown, the pot still there -/
structure Pg (p : Nat) (hs h : Hs) : Prop where
  gr : Gr [p] hs h
  pot : Pot p h
theorem Pg.refl {p : Nat} {hs : Hs} (h : Pot p hs) : Pg p hs hs := ⟨.refl, h⟩
theorem Pg.trans {p : Nat} {a b c : Hs} (h : Pg p a b) (k : Pg p b c) : Pg p a c := ⟨h.gr.trans k.gr, k.pot⟩
theorem Pot.gr {p : Nat} {hs h : Hs} (k : Pot p hs) (g : Gr [] hs h) : Pot p h := by
  obtain ⟨c, cells, a, b, s, t, h0, h1, h2, h3⟩ := k
  exact ⟨c, cells, a, b, s, t, h0, g.get h1 (by simp), g.get h2 (by simp), h3⟩
theorem Pg.of {p : Nat} {hs h : Hs} (k : Pot p hs) (g : Gr [] hs h) : Pg p hs h := ⟨g.mono (by simp), k.gr g⟩
theorem Gr.set_new {S : List Nat} {hs0 hs : Hs} {n : Nat} {o : O} (g : Gr S hs0 hs) (hn : hs0.length ≤ n) : Gr S hs0 (hs.set n o) := ⟨by simpa using g.le, fun m hm hS => by rw [cell_set_ne (by omega)]; exact g.at_ m hm hS⟩
theorem Pot.set {p n : Nat} {hs : Hs} {o : O} (k : Pot p hs) (hn : p < n) : Pot p (hs.set n o) := by
  obtain ⟨c, cells, a, b, s, t, h0, h1, h2, h3⟩ := k
  exact ⟨c, cells, a, b, s, t, h0, by rw [cell_set_ne (by omega)]; exact h1, by rw [cell_set_ne (by omega)]; exact h2, h3⟩
/-- a list made since is written -/
theorem Pg.set {p n : Nat} {hs h : Hs} {o : O} (g : Pg p hs h) (hn : hs.length ≤ n) (hp : p < hs.length) : Pg p hs (h.set n o) := ⟨g.gr.set_new hn, g.pot.set (by omega)⟩
theorem Pg.push {p : Nat} {hs : Hs} {o : O} (k : Pot p hs) : Pg p hs (hs ++ [o]) := .of k .push
theorem Pg.get {p : Nat} {hs h : Hs} (g : Pg p hs h) {n : Nat} {o : O} (e : cell hs n = some o) (hn : n ≠ p) : cell h n = some o := g.gr.get e (by simpa using hn)
theorem pot_wr {p c : Nat} {cells : List Int} {a b s t a' b' s' t' : Int} {hs : Hs} (h0 : c < p) (h1 : cell hs c = some (.lst (cells.map .int))) (h2 : cell hs p = some (.lst [.loc c, .int a, .int b, .int s, .int t])) (ha : 0 ≤ a') :
    Pg p hs (hs.set p (.lst [.loc c, .int a', .int b', .int s', .int t'])) := by
  refine ⟨.set (by simp), c, cells, a', b', s', t', h0, ?_, ?_, ha⟩
  · rw [cell_set_ne (Nat.ne_of_gt h0)]; exact h1
  · rw [cell_set_self (cell_lt h2)]
theorem draw_ok {p : Nat} {n : Int} {hs : Hs} {Q : Except Ex D → Hs → Prop} (h : Pot p hs) (hn : 0 < n) (hb : n.natAbs < big) (k : ∀ v h', 0 ≤ v → v < n → Pg p hs h' → Q (.ok (.int v)) h') : Wp (r__law_draw [.loc p, .int n] hs) Q := by
  obtain ⟨c, cells, a, b, s, t, h00, h1, h2, h3⟩ := h
  have h0 : c ≠ p := Nat.ne_of_lt h00
  have hp := cell_lt h2
  have dn : divOk n := .of hn hb
  have m1 : ∀ x : Int, mulOk x 69621 := fun x => .r (by decide) (by decide)
  have m2 : ∀ x : Int, mulOk x 48271 := fun x => .r (by decide) (by decide)
  have m3 : ∀ x : Int, mulOk 7919 x := fun x => .l (by decide) (by decide)
  have m4 : ∀ x y : Int, mulOk (x % 2147483647) y := fun x y => .l (by omega) (by omega)
  have d1 : divOk 1009 := .small (by decide) (by decide)
  have d2 : divOk 2003 := .small (by decide) (by decide)
  have d3 : divOk 16 := .small (by decide) (by decide)
  have cut : ∀ {x a' b' s' t'}, 0 ≤ a' → Q (.ok (.int (x % n))) (hs.set p (.lst [.loc c, .int a', .int b', .int s', .int t'])) := fun {x a' b' s' t'} ha =>
    k _ _ (Int.emod_nonneg _ (by omega)) (Int.emod_lt_of_pos _ hn) (pot_wr h00 h1 h2 ha)
  unfold r__law_draw b__law_draw
  simp [h0, h0.symm, h1, h2, hp, dn, m1, m2, m3, m4, d1, d2, d3, hn]
  refine ⟨fun hb0 => ⟨fun hlt => ?_, fun hge => ?_⟩, fun hb0 => ⟨fun hb1 => cut h3, fun hb1 => cut h3⟩⟩
  · have hl : a.toNat < cells.length := by omega
    refine ⟨_, atI_nat (x := D.int cells[a.toNat]) (by simp [hl]) h3, ?_⟩
    simp [m1, h0, h0.symm, hp, h1, dn, m2, m3, m4, d1, d2, d3, hn]
    exact ⟨fun _ => ⟨fun _ => cut (by omega), fun _ => cut (by omega)⟩, fun _ => ⟨fun _ => cut (by omega), fun _ => cut (by omega)⟩⟩
  · exact ⟨fun _ => cut h3, fun _ => cut h3⟩
end DL
set_option Elab.async false
set_option linter.all false
set_option maxRecDepth 100000
set_option maxHeartbeats 4000000
namespace DL
open PySem PySem.Spec PyProof.Rows L2

/-- a list or a tuple of those things -/
inductive Sq (hs : Hs) (p : Nat) : D → List D → Prop
  | tup {xs : List D} : Sq hs p (.tup xs) xs
  | loc {n : Nat} {xs : List D} (h : cell hs n = some (.lst xs)) (hn : n ≠ p) : Sq hs p (.loc n) xs
theorem any_ok {p : Nat} {d : D} {xs : List D} {hs : Hs} {Q : Except Ex D → Hs → Prop} (h : Pot p hs) (hd : Sq hs p d xs) (h0 : xs ≠ []) (hb : xs.length < 2 ^ 64) (k : ∀ x h', x ∈ xs → Pg p hs h' → Q (.ok x) h') : Wp (r__law_any [.loc p, d] hs) Q := by
  have hl : 0 < xs.length := by cases xs with
    | nil => exact absurd rfl h0
    | cons x r => simp
  have hb2 : ((xs.length : Int)).natAbs < big := Nat.lt_of_lt_of_le (by omega) small_big
  unfold r__law_any b__law_any
  cases hd with
  | tup =>
    simp
    refine draw_ok h (by omega) hb2 fun v h' h1 h2 g => ?_
    have hv : v.toNat < xs.length := by omega
    simp
    exact ⟨_, atI_nat (x := xs[v.toNat]) (by simp [hv]) h1, k _ _ (List.getElem_mem _) g⟩
  | loc e hn =>
    simp [e]
    refine draw_ok h (by omega) hb2 fun v h' h1 h2 g => ?_
    have hv : v.toNat < xs.length := by omega
    simp [g.get e hn]
    exact ⟨_, atI_nat (x := xs[v.toNat]) (by simp [hv]) h1, k _ _ (List.getElem_mem _) g⟩
theorem cut_nil {xs : List D} {n : Int} (h : 0 ≤ n) : cutD xs none (some n) = xs.take n.toNat := by
  unfold cutD HT.sIx
  simp only
  rw [if_neg (by omega)]
  simp
theorem pot_ok {ns : List Int} {hs : Hs} {Q : Except Ex D → Hs → Prop} (k : ∀ p h', hs.length ≤ p → Pot p h' → Gr [] hs h' → Q (.ok (.loc p)) h') : Wp (r__law_pot [.frl (ns.map .int)] hs) Q := by
  unfold r__law_pot b__law_pot
  simp [cut_nil]
  refine wp_comp (fun i acc h => h = hs ++ [.lst ((ns.map D.int).take 63)] ∧ ∃ cs : List Int, acc = cs.map .int ∧ acc.length = i) ⟨rfl, [], rfl, rfl⟩ ?_ ?_
  · rintro i d acc h hi ⟨rfl, cs, rfl, hl⟩
    refine ⟨by simp, ?_⟩
    have hm := List.mem_of_getElem? hi
    obtain ⟨n, _, rfl⟩ := List.mem_map.mp (List.mem_of_mem_take hm)
    have hi63 : i < 63 := by
      have := (List.getElem?_eq_some_iff.mp hi).1
      simp at this
      omega
    simp at hl ⊢
    exact ⟨small1000 (by omega), ⟨cs ++ [if n < 0 then -n else n], by simp⟩, hl⟩
  · rintro acc h ⟨rfl, cs, rfl, hl⟩
    simp
    refine k _ _ (by omega) ⟨hs.length + 1, cs, 0, 0, 1 + cs.length, 0, by omega, by simp, by simp, by omega⟩ .app
end DL
set_option Elab.async false
set_option linter.all false
set_option maxRecDepth 100000
set_option maxHeartbeats 4000000
namespace DL
open PySem PySem.Spec PyProof.Rows L2

/-! ## isinstance -/
section
variable {hs : Hs} {Q : D → Hs → Prop}
theorem isi_of {d : D} {T n : String} {c : Bool} (h1 : tyD hs d = some T) (h2 : kitB T n = some c) : Wp (isiD [d, .ty n] hs) Q = Q (.bl c) hs := by
  unfold isiD
  simp only [h1, h2]
  rfl
theorem isi_loc {n : Nat} {T : String} {c e : Bool} (h2 : kitB "list" T = some c) (h3 : kitB "dict" T = some e) : Wp (isiD [.loc n, .ty T] hs) Q = ((∃ xs, cell hs n = some (.lst xs) ∧ Q (.bl c) hs) ∨ (∃ kvs, cell hs n = some (.dct kvs) ∧ Q (.bl e) hs)) := by
  unfold isiD tyD
  simp only [cell_eq]
  cases h : cell hs n with
  | none => simp
  | some o => cases o <;> simp [h2, h3]
@[simp] theorem isi_non_int : Wp (isiD [.non, .ty "int"] hs) Q = Q (.bl false) hs := isi_of rfl (by decide +kernel)
@[simp] theorem isi_non_bool : Wp (isiD [.non, .ty "bool"] hs) Q = Q (.bl false) hs := isi_of rfl (by decide +kernel)
@[simp] theorem isi_non_str : Wp (isiD [.non, .ty "str"] hs) Q = Q (.bl false) hs := isi_of rfl (by decide +kernel)
@[simp] theorem isi_non_list : Wp (isiD [.non, .ty "list"] hs) Q = Q (.bl false) hs := isi_of rfl (by decide +kernel)
@[simp] theorem isi_non_tuple : Wp (isiD [.non, .ty "tuple"] hs) Q = Q (.bl false) hs := isi_of rfl (by decide +kernel)
@[simp] theorem isi_non_dict : Wp (isiD [.non, .ty "dict"] hs) Q = Q (.bl false) hs := isi_of rfl (by decide +kernel)
@[simp] theorem isi_bl_int {b : Bool} : Wp (isiD [(.bl b), .ty "int"] hs) Q = Q (.bl true) hs := isi_of rfl (by decide +kernel)
@[simp] theorem isi_bl_bool {b : Bool} : Wp (isiD [(.bl b), .ty "bool"] hs) Q = Q (.bl true) hs := isi_of rfl (by decide +kernel)
@[simp] theorem isi_bl_str {b : Bool} : Wp (isiD [(.bl b), .ty "str"] hs) Q = Q (.bl false) hs := isi_of rfl (by decide +kernel)
@[simp] theorem isi_bl_list {b : Bool} : Wp (isiD [(.bl b), .ty "list"] hs) Q = Q (.bl false) hs := isi_of rfl (by decide +kernel)
@[simp] theorem isi_bl_tuple {b : Bool} : Wp (isiD [(.bl b), .ty "tuple"] hs) Q = Q (.bl false) hs := isi_of rfl (by decide +kernel)
@[simp] theorem isi_bl_dict {b : Bool} : Wp (isiD [(.bl b), .ty "dict"] hs) Q = Q (.bl false) hs := isi_of rfl (by decide +kernel)
@[simp] theorem isi_int_int {i : Int} : Wp (isiD [(.int i), .ty "int"] hs) Q = Q (.bl true) hs := isi_of rfl (by decide +kernel)
@[simp] theorem isi_int_bool {i : Int} : Wp (isiD [(.int i), .ty "bool"] hs) Q = Q (.bl false) hs := isi_of rfl (by decide +kernel)
@[simp] theorem isi_int_str {i : Int} : Wp (isiD [(.int i), .ty "str"] hs) Q = Q (.bl false) hs := isi_of rfl (by decide +kernel)
@[simp] theorem isi_int_list {i : Int} : Wp (isiD [(.int i), .ty "list"] hs) Q = Q (.bl false) hs := isi_of rfl (by decide +kernel)
@[simp] theorem isi_int_tuple {i : Int} : Wp (isiD [(.int i), .ty "tuple"] hs) Q = Q (.bl false) hs := isi_of rfl (by decide +kernel)
@[simp] theorem isi_int_dict {i : Int} : Wp (isiD [(.int i), .ty "dict"] hs) Q = Q (.bl false) hs := isi_of rfl (by decide +kernel)
@[simp] theorem isi_str_int {x : Str} : Wp (isiD [(.str x), .ty "int"] hs) Q = Q (.bl false) hs := isi_of rfl (by decide +kernel)
@[simp] theorem isi_str_bool {x : Str} : Wp (isiD [(.str x), .ty "bool"] hs) Q = Q (.bl false) hs := isi_of rfl (by decide +kernel)
@[simp] theorem isi_str_str {x : Str} : Wp (isiD [(.str x), .ty "str"] hs) Q = Q (.bl true) hs := isi_of rfl (by decide +kernel)
@[simp] theorem isi_str_list {x : Str} : Wp (isiD [(.str x), .ty "list"] hs) Q = Q (.bl false) hs := isi_of rfl (by decide +kernel)
@[simp] theorem isi_str_tuple {x : Str} : Wp (isiD [(.str x), .ty "tuple"] hs) Q = Q (.bl false) hs := isi_of rfl (by decide +kernel)
@[simp] theorem isi_str_dict {x : Str} : Wp (isiD [(.str x), .ty "dict"] hs) Q = Q (.bl false) hs := isi_of rfl (by decide +kernel)
@[simp] theorem isi_tup_int {xs : List D} : Wp (isiD [(.tup xs), .ty "int"] hs) Q = Q (.bl false) hs := isi_of rfl (by decide +kernel)
@[simp] theorem isi_tup_bool {xs : List D} : Wp (isiD [(.tup xs), .ty "bool"] hs) Q = Q (.bl false) hs := isi_of rfl (by decide +kernel)
@[simp] theorem isi_tup_str {xs : List D} : Wp (isiD [(.tup xs), .ty "str"] hs) Q = Q (.bl false) hs := isi_of rfl (by decide +kernel)
@[simp] theorem isi_tup_list {xs : List D} : Wp (isiD [(.tup xs), .ty "list"] hs) Q = Q (.bl false) hs := isi_of rfl (by decide +kernel)
@[simp] theorem isi_tup_tuple {xs : List D} : Wp (isiD [(.tup xs), .ty "tuple"] hs) Q = Q (.bl true) hs := isi_of rfl (by decide +kernel)
@[simp] theorem isi_tup_dict {xs : List D} : Wp (isiD [(.tup xs), .ty "dict"] hs) Q = Q (.bl false) hs := isi_of rfl (by decide +kernel)
@[simp] theorem isi_frl_int {xs : List D} : Wp (isiD [(.frl xs), .ty "int"] hs) Q = Q (.bl false) hs := isi_of rfl (by decide +kernel)
@[simp] theorem isi_frl_bool {xs : List D} : Wp (isiD [(.frl xs), .ty "bool"] hs) Q = Q (.bl false) hs := isi_of rfl (by decide +kernel)
@[simp] theorem isi_frl_str {xs : List D} : Wp (isiD [(.frl xs), .ty "str"] hs) Q = Q (.bl false) hs := isi_of rfl (by decide +kernel)
@[simp] theorem isi_frl_list {xs : List D} : Wp (isiD [(.frl xs), .ty "list"] hs) Q = Q (.bl true) hs := isi_of rfl (by decide +kernel)
@[simp] theorem isi_frl_tuple {xs : List D} : Wp (isiD [(.frl xs), .ty "tuple"] hs) Q = Q (.bl false) hs := isi_of rfl (by decide +kernel)
@[simp] theorem isi_frl_dict {xs : List D} : Wp (isiD [(.frl xs), .ty "dict"] hs) Q = Q (.bl false) hs := isi_of rfl (by decide +kernel)
@[simp] theorem isi_loc_int {n : Nat} : Wp (isiD [.loc n, .ty "int"] hs) Q = ((∃ xs, cell hs n = some (.lst xs) ∧ Q (.bl false) hs) ∨ (∃ kvs, cell hs n = some (.dct kvs) ∧ Q (.bl false) hs)) := isi_loc (by decide +kernel) (by decide +kernel)
@[simp] theorem isi_loc_bool {n : Nat} : Wp (isiD [.loc n, .ty "bool"] hs) Q = ((∃ xs, cell hs n = some (.lst xs) ∧ Q (.bl false) hs) ∨ (∃ kvs, cell hs n = some (.dct kvs) ∧ Q (.bl false) hs)) := isi_loc (by decide +kernel) (by decide +kernel)
@[simp] theorem isi_loc_str {n : Nat} : Wp (isiD [.loc n, .ty "str"] hs) Q = ((∃ xs, cell hs n = some (.lst xs) ∧ Q (.bl false) hs) ∨ (∃ kvs, cell hs n = some (.dct kvs) ∧ Q (.bl false) hs)) := isi_loc (by decide +kernel) (by decide +kernel)
@[simp] theorem isi_loc_list {n : Nat} : Wp (isiD [.loc n, .ty "list"] hs) Q = ((∃ xs, cell hs n = some (.lst xs) ∧ Q (.bl true) hs) ∨ (∃ kvs, cell hs n = some (.dct kvs) ∧ Q (.bl false) hs)) := isi_loc (by decide +kernel) (by decide +kernel)
@[simp] theorem isi_loc_tuple {n : Nat} : Wp (isiD [.loc n, .ty "tuple"] hs) Q = ((∃ xs, cell hs n = some (.lst xs) ∧ Q (.bl false) hs) ∨ (∃ kvs, cell hs n = some (.dct kvs) ∧ Q (.bl false) hs)) := isi_loc (by decide +kernel) (by decide +kernel)
@[simp] theorem isi_loc_dict {n : Nat} : Wp (isiD [.loc n, .ty "dict"] hs) Q = ((∃ xs, cell hs n = some (.lst xs) ∧ Q (.bl false) hs) ∨ (∃ kvs, cell hs n = some (.dct kvs) ∧ Q (.bl true) hs)) := isi_loc (by decide +kernel) (by decide +kernel)
end
/-! ## strings -/
theorem shp {x : Str} (h : PyData.canLay0 (.str x) = true) : SeqAt.shaped (.str x) = true := by unfold SeqAt.shaped; rw [h]; rfl
theorem pys_strs {f : Nat → Option PyData} : ∀ {ws : List Str}, D.pys f (ws.map .str) = some (ws.map .str)
  | [] => rfl
  | w :: ws => by simp [D.pys, D.py, pys_strs (ws := ws)]
theorem depthAll_strs : ∀ {ws : List Str}, PyData.depthAll (ws.map PyData.str) ≤ 1
  | [] => by simp [PyData.depthAll]
  | w :: ws => by
    have ih := depthAll_strs (ws := ws)
    simp [PyData.depthAll, PyData.depth]
    omega
theorem canLay_strs : ∀ {ws : List Str}, (∀ w ∈ ws, PyData.canLay0 (.str w) = true) → PyData.canLayAll0 (ws.map .str) = true
  | [], _ => by simp [PyData.canLayAll0]
  | w :: ws, h => by simp [PyData.canLayAll0, h w (by simp), canLay_strs (ws := ws) fun v hv => h v (by simp [hv])]
theorem in_tup {hs : Hs} {a : D} {xs : List D} {p : PyData} {ys : List PyData} (h1 : a.data hs = some p) (h2 : D.data hs (.tup xs) = some (.tuple ys)) (s1 : SeqAt.shaped p = true) (s2 : SeqAt.shaped (.tuple ys) = true) : inD hs a (.tup xs) = some (ys.any fun z => PyData.eqv z p) := by
  cases a <;> simp [inD, h1, h2, s1, s2]
theorem in_strs {hs : Hs} {w : Str} {ws : List Str} (h1 : PyData.canLay0 (.str w) = true) (h2 : ∀ w ∈ ws, PyData.canLay0 (.str w) = true) : inD hs (.str w) (.tup (ws.map .str)) = some (decide (w ∈ ws)) := by
  have e : D.data hs (.tup (ws.map .str)) = some (.tuple (ws.map .str)) := by
    unfold D.data D.py
    rw [pys_strs]; rfl
  have s2 : SeqAt.shaped (.tuple (ws.map .str)) = true := by
    unfold SeqAt.shaped
    have := depthAll_strs (ws := ws)
    simp [PyData.canLay0, canLay_strs h2, PyData.depth]
    omega
  refine (in_tup (p := .str w) rfl e (shp h1) s2).trans ?_
  congr 1
  clear e s2 h1 h2
  induction ws with
  | nil => rfl
  | cons v ws ih =>
    rw [List.map_cons, List.any_cons, ih]
    by_cases q : v = w
    · subst q; simp [PyData.eqv]
    · have q' : w ≠ v := fun e => q e.symm
      simp [PyData.eqv, q, q']
end DL
set_option Elab.async false
set_option linter.all false
set_option maxRecDepth 100000
set_option maxHeartbeats 4000000
namespace DL
open PySem PySem.Spec PyProof.Rows L2

/-! ## the end: what the top has written -/
section
variable {P : Program} {w : World} {K : PySem.W.Frag} {mg : Str → Option Value} {base : Heap} {k : Nat} {x : Str}
theorem val_int {i : Int} {t : Tok} (e : mg x = some (Value.int i t)) : GAt P w K mg base k x (.val (.int i)) := ⟨_, .int i, e, ⟨t, rfl⟩, fun _ _ => mk_int⟩
theorem val_str {y : Str} {t : Tok} (e : mg x = some (Value.str y t)) : GAt P w K mg base k x (.val (.str y)) := ⟨_, .str y, e, ⟨t, rfl⟩, fun _ _ => mk_str⟩
theorem val_tup {a : Addr} {od : Option Addr} {its : Array Value} {n : Nat} {sl : Array (Option Value)} {xs : List D} {vs : List V} (e : mg x = some (.ref a)) (l : K.lookup a = some ⟨.type "tuple", od, .seq its n, sl⟩) (hz : its.size ≤ sizeLine)
    (v : Vals vs its.toList) (r : ∀ m H, RVs K mg m H xs vs) : GAt P w K mg base k x (.val (.tup xs)) :=
  ⟨_, .ref a, e, rfl, fun m H => by simp only [RV]; exact ⟨a, vs, rfl, .inr ⟨_, its, n, l, rfl, rfl, hz, v⟩, r m H⟩⟩
theorem fn_at {n : Nat} {f : List D → M D} {g : Addr} {fd : FuncData} {ps : List Str} (F : FnG P w K mg base (L2.CX P w) k g fd ps (spD K mg n f)) (h1 : mg x = some (.ref g)) (h2 : PySem.W.keepIn K (.ref g) = true) (h3 : Binds K fd ps []) : GAt P w K mg base k x (.fn n f) := ⟨g, fd, ps, F, h1, h2, h3⟩
end
theorem walk {l : PySem.W.OpenLaw} {q : Program} {loose : List Str} {XP : (Str → Option Value) → Heap → Prop} {YP : World → Heap → Prop} {d : DefRec} {K : Params → PySem.W.Frag} {k : Nat} {x : Str} {r : List D → M D} (hn : l.most = some 63) (hdf : d.params.defaults = []) (hr : Room k callerA)
    (hY : ∀ (w : World) (h : Heap), YP w h → (K w.params).In h) (law : ∀ ns : List Int, ns.length ≤ 63 → ∃ hs', r [.frl (ns.map D.int)] [] = some (.ok (.bl true), hs'))
    (F : ∀ (w : World) (mg : Str → Option Value) (fa : Addr) (h : Heap), (K w.params).In h → h.Ns mainGlobals mg → mg d.name = some (.ref fa) →
      ∃ fd : FuncData, (∀ (s : Shared) (u : Value), BindsTo s fd ⟨[u], []⟩ [(x, u)]) ∧ ∀ base : Heap, (K w.params).In base → base.Ns mainGlobals mg → FnG l.prog w (K w.params) mg base (L2.CX l.prog w) k fa fd [x] (spD (K w.params) mg 1 r)) :
    PySem.W.WalkO q loose XP YP l.row.toRowW d [] (fun f vs => PySem.call f vs) := by
  refine Att.attach_call hn hdf fun w s₀ s₁ mg mb fa o pm cd doc a vs ns G Y ho hd hcd hmg hobj hints hlen hg => ?_
  have kin := hY w _ Y
  obtain ⟨fd, h1, h2⟩ := F w mg fa _ kin G.T.g hmg
  refine callG (CX := L2.CX l.prog w) kin G.T.g G.T.b G.T.builtins G.T.nolimit hg hobj hints (Nat.le_trans hlen (by decide)) hr (fun base hb hb2 => (h2 base hb hb2).weak fun vs H Q E q => law_sp law vs H Q E q) h1 (fun H hO hS => ⟨a, ns, rfl, sqF_of hO hS, hlen, fun _ => rfl⟩) fun H e s' h => ?_
  obtain ⟨_, _, _, _, _, _, _, _, _, _, _, _, z⟩ := h
  exact z.elim
theorem law_of {r : List D → M D} (h : ∀ ns : List Int, ns.length ≤ 63 → Wp (r [.frl (ns.map D.int)] []) (okq fun d _ => d = .bl true)) (ns : List Int) (hl : ns.length ≤ 63) : ∃ hs', r [.frl (ns.map D.int)] [] = some (.ok (.bl true), hs') := by
  obtain ⟨b, hs', e, q⟩ := (h ns hl).get
  cases b with
  | error _ => exact q.elim
  | ok d =>
    have q : d = .bl true := q
    subst q
    exact ⟨hs', e⟩
end DL
set_option Elab.async false
set_option linter.all false
set_option maxRecDepth 100000
set_option maxHeartbeats 4000000
namespace DL
open PySem PySem.Spec PyProof.Rows L2

/-! ## what values are: the checks that all laws share -/
noncomputable def b_is_integer : Ev → S := (seqS (retS (andV (callM isiD (consM (varD 0) (consM (fun _ => M.pure (.ty "int")) (fun _ => M.pure [])))) (notV (callM isiD (consM (varD 0) (consM (fun _ => M.pure (.ty "bool")) (fun _ => M.pure [])))))))
  nextS)
noncomputable def r_is_integer : List D → M D := runB 1 b_is_integer
noncomputable def b_is_within : Ev → S := (seqS (retS (andV (callF 1 r_is_integer (consM (varD 0) (fun _ => M.pure []))) (op3 (cmpD .LtE) (cmpD .LtE) (varD 1) (varD 0) (varD 2))))
  nextS)
noncomputable def r_is_within : List D → M D := runB 3 b_is_within
noncomputable def b_is_many : Ev → S := (seqS (retS (callF 3 r_is_within (consM (varD 0) (consM (fun _ => M.pure (.int 3)) (consM (fun _ => M.pure (.int 5)) (fun _ => M.pure []))))))
  nextS)
noncomputable def r_is_many : List D → M D := runB 1 b_is_many
noncomputable def b_check_many : Ev → S := (seqS (ifS (notM (truth (callF 1 r_is_many (consM (varD 0) (fun _ => M.pure [])))))
  (seqS stuckS
  nextS)
  nextS)
  nextS)
noncomputable def r_check_many : List D → M D := runB 1 b_check_many
noncomputable def b_check_rounds : Ev → S := (seqS (ifS (notM (truth (callF 3 r_is_within (consM (varD 0) (consM (fun _ => M.pure (.int 0)) (consM (fun _ => M.pure (.int 30)) (fun _ => M.pure [])))))))
  (seqS stuckS
  nextS)
  nextS)
  nextS)
noncomputable def r_check_rounds : List D → M D := runB 1 b_check_rounds
noncomputable def b_is_sized : Ev → S := (seqS (retS (andV (callM isiD (consM (varD 0) (consM (fun _ => M.pure (.ty "tuple")) (fun _ => M.pure [])))) (op3 (cmpD .LtE) (cmpD .LtE) (varD 1) (callM lenD (consM (varD 0) (fun _ => M.pure []))) (varD 2))))
  nextS)
noncomputable def r_is_sized : List D → M D := runB 3 b_is_sized
noncomputable def b_is_miss : Ev → S := (seqS (retS (orV (op2 (cmpD .Is) (varD 2) (fun _ => M.pure .non)) (andV (callF 3 r_is_within (consM (varD 2) (consM (fun _ => M.pure (.int 0)) (consM (op2 (binD .Sub) (varD 0) (fun _ => M.pure (.int 1))) (fun _ => M.pure []))))) (op2 (cmpD .NotEq) (varD 2) (varD 1)))))
  nextS)
noncomputable def r_is_miss : List D → M D := runB 3 b_is_miss
noncomputable def b_is_round : Ev → S := (seqS (retS (andV (callF 3 r_is_sized (consM (varD 1) (consM (varD 0) (consM (varD 0) (fun _ => M.pure []))))) (callM allD (consM (compM [2, 3] (.many [2, 3]) (fun e => M.bind ((consM (varD 1) (fun _ => M.pure [])) e) enumSrc) (fun _ => M.pure true) (callF 3 r_is_miss (consM (varD 0) (consM (varD 2) (consM (varD 3) (fun _ => M.pure [])))))) (fun _ => M.pure [])))))
  nextS)
noncomputable def r_is_round : List D → M D := runB 4 b_is_round
noncomputable def b_is_pattern_of : Ev → S := (seqS (asgS (.many [3, 4]) (ifV (asTest (op2 (cmpD .Is) (varD 1) (fun _ => M.pure .non))) (tupM (consM (fun _ => M.pure (.int 0)) (consM (fun _ => M.pure (.int 30)) (fun _ => M.pure [])))) (tupM (consM (varD 1) (consM (varD 1) (fun _ => M.pure []))))))
  (seqS (retS (andV (callF 3 r_is_sized (consM (varD 2) (consM (varD 3) (consM (varD 4) (fun _ => M.pure []))))) (callM allD (consM (compM [5] (.one 5) (seqM (varD 2)) (fun _ => M.pure true) (callF 2 r_is_round (consM (varD 0) (consM (varD 5) (fun _ => M.pure []))))) (fun _ => M.pure [])))))
  nextS))
noncomputable def r_is_pattern_of : List D → M D := runB 6 b_is_pattern_of
/-! ### a comprehension whose turns tell one thing each, and write nothing that stood -/
theorem wp_comp_grow {ok : Hs → Prop} {turn : D → M (Option D)} {items : List D} {hs : Hs} {Q : List D → Hs → Prop} (S : List Nat) (g : D → Option D) (hok : ∀ h, Gr S hs h → ok h) (hl : items.length ≤ 1000)
    (step : ∀ d h, d ∈ items → Gr S hs h → Wp (turn d h) (okq fun o h' => o = g d ∧ Gr S h h')) (fin : ∀ h, Gr S hs h → Q (items.filterMap g) h) : Wp (compS ok turn items [] hs) Q := by
  refine wp_comp (fun i acc h => Gr S hs h ∧ acc = (items.take i).filterMap g) ⟨.refl, by simp⟩ ?_ ?_
  · rintro i d acc h hi ⟨gr, rfl⟩
    refine ⟨hok h gr, (step d h (List.mem_of_getElem? hi) gr).mono fun r h' q => ?_⟩
    cases r with
    | error e => exact q.elim
    | ok o =>
      obtain ⟨rfl, g2⟩ : o = g d ∧ Gr S h h' := q
      have hlt := (List.getElem?_eq_some_iff.mp hi).1
      have e : (items.take (i + 1)).filterMap g = (items.take i).filterMap g ++ (match g d with | some y => [y] | none => []) := by
        rw [List.take_succ, hi, List.filterMap_append]
        simp only [Option.toList]
        cases eg : g d <;> simp [eg]
      simp only [okq]
      cases eg : g d with
      | none => simp only [eg] at e; exact ⟨gr.trans g2, by rw [e]; simp⟩
      | some y =>
        simp only [eg] at e
        refine ⟨?_, gr.trans g2, e.symm⟩
        have := List.length_filterMap_le g (items.take i)
        have h2 := List.length_take_le i items
        exact small1000 (by omega)
  · rintro acc h ⟨gr, rfl⟩
    exact ⟨hok h gr, by rw [List.take_length]; exact fin h gr⟩
/-- a thing whose type is known -/
inductive Kn (hs : Hs) : D → Prop
  | non : Kn hs .non
  | bl {b : Bool} : Kn hs (.bl b)
  | int {i : Int} : Kn hs (.int i)
  | str {x : Str} : Kn hs (.str x)
  | tup {xs : List D} : Kn hs (.tup xs)
  | frl {xs : List D} : Kn hs (.frl xs)
  | lst {n : Nat} {xs : List D} (h : cell hs n = some (.lst xs)) : Kn hs (.loc n)
  | dct {n : Nat} {kvs : List (D × D)} (h : cell hs n = some (.dct kvs)) : Kn hs (.loc n)
theorem Kn.gr {hs h : Hs} {d : D} (k : Kn hs d) (g : Gr [] hs h) : Kn h d := by
  cases k with
  | non => exact .non
  | bl => exact .bl
  | int => exact .int
  | str => exact .str
  | tup => exact .tup
  | frl => exact .frl
  | lst e => exact .lst (g.get e (by simp))
  | dct e => exact .dct (g.get e (by simp))
def isInt : D → Bool
  | .int _ => true
  | _ => false
def within (lo hi : Int) : D → Bool
  | .int i => decide (lo ≤ i) && decide (i ≤ hi)
  | _ => false
section
variable {hs : Hs} {d : D} {Q : Except Ex D → Hs → Prop}
@[simp] theorem is_integer_ok (k : Kn hs d) : Wp (r_is_integer [d] hs) Q = Q (.ok (.bl (isInt d))) hs := by
  unfold r_is_integer b_is_integer
  cases k <;> simp [isInt, *]
@[simp] theorem is_within_ok {lo hi : Int} (k : Kn hs d) : Wp (r_is_within [d, .int lo, .int hi] hs) Q = Q (.ok (.bl (within lo hi d))) hs := by
  unfold r_is_within b_is_within
  cases k <;> simp [isInt, within, Kn.non, Kn.bl, Kn.int, Kn.str, Kn.tup, Kn.frl, Kn.lst, Kn.dct, *]
  rename_i i
  by_cases h : lo ≤ i
  · have h2 : ¬ i < lo := by omega
    simp [h, h2]
  · have h2 : i < lo := by omega
    simp [h, h2]
theorem is_many_ok (k : Kn hs d) : Wp (r_is_many [d] hs) Q = Q (.ok (.bl (within 3 5 d))) hs := by
  unfold r_is_many b_is_many
  simp [k]
theorem check_many_ok {i : Int} (h : 3 ≤ i ∧ i ≤ 5) (q : Q (.ok .non) hs) : Wp (r_check_many [.int i] hs) Q := by
  unfold r_check_many b_check_many
  simp [is_many_ok Kn.int, within, h.1, h.2]
  exact q
theorem check_rounds_ok {i : Int} (h : 0 ≤ i ∧ i ≤ 30) (q : Q (.ok .non) hs) : Wp (r_check_rounds [.int i] hs) Q := by
  unfold r_check_rounds b_check_rounds
  simp [Kn.int, within, h.1, h.2]
  exact q
def sized (lo hi : Int) : D → Bool
  | .tup xs => decide (lo ≤ xs.length) && decide ((xs.length : Int) ≤ hi)
  | _ => false
theorem is_sized_ok {lo hi : Int} (k : Kn hs d) : Wp (r_is_sized [d, .int lo, .int hi] hs) Q = Q (.ok (.bl (sized lo hi d))) hs := by
  unfold r_is_sized b_is_sized
  cases k <;> simp [sized, *]
  rename_i xs
  by_cases h : lo ≤ xs.length
  · have h2 : ¬ (xs.length : Int) < lo := by omega
    simp [h, h2]
  · have h2 : (xs.length : Int) < lo := by omega
    simp [h, h2]
def miss (many me : Int) : D → Bool
  | .non => true
  | .int i => decide (0 ≤ i) && decide (i ≤ many - 1) && decide (i ≠ me)
  | _ => false
theorem is_miss_ok {many me : Int} (k : Kn hs d) : Wp (r_is_miss [.int many, .int me, d] hs) Q = Q (.ok (.bl (miss many me d))) hs := by
  unfold r_is_miss b_is_miss
  cases k <;> simp [miss, within, Kn.non, Kn.bl, Kn.int, Kn.str, Kn.tup, Kn.frl, Kn.lst, Kn.dct, *]
  rename_i i
  by_cases h1 : 0 ≤ i <;> by_cases h2 : i ≤ many - 1
  · have h3 : ¬ many - 1 < i := by omega
    simp [h1, h2, h3]
  · have h3 : many - 1 < i := by omega
    simp [h1, h2, h3]
  · simp [h1, h2]
  · simp [h1, h2]
def missL (many : Int) : Nat → List D → List Bool
  | _, [] => []
  | k, x :: xs => miss many (k : Nat) x :: missL many (k + 1) xs
def roundOk (many : Int) : D → Bool
  | .tup xs => decide ((xs.length : Int) = many) && (missL many 0 xs).all id
  | _ => false
def missG (many : Int) : D → Option D
  | .tup [.int i, x] => some (.bl (miss many i x))
  | _ => none
theorem missG_all {many : Int} : ∀ {xs : List D} {k : Nat}, (enumL k xs).filterMap (missG many) = (missL many k xs).map .bl
  | [], _ => rfl
  | x :: xs, k => by simp [enumL, missL, missG, missG_all (xs := xs)]
/-- a thing that is known, its items too if it is a tuple -/
def Kn1 (hs : Hs) (d : D) : Prop := Kn hs d ∧ ∀ xs, d = .tup xs → ∀ x ∈ xs, Kn hs x
/-- .. and theirs -/
def Kn2 (hs : Hs) (d : D) : Prop := Kn hs d ∧ ∀ xs, d = .tup xs → ∀ x ∈ xs, Kn1 hs x
theorem Kn1.gr {hs h : Hs} {d : D} (k : Kn1 hs d) (g : Gr [] hs h) : Kn1 h d := ⟨k.1.gr g, fun xs e x hx => (k.2 xs e x hx).gr g⟩
theorem Kn2.gr {hs h : Hs} {d : D} (k : Kn2 hs d) (g : Gr [] hs h) : Kn2 h d := ⟨k.1.gr g, fun xs e x hx => (k.2 xs e x hx).gr g⟩
theorem is_round_ok {many : Int} (hm : 0 ≤ many ∧ many ≤ 1000) (k : Kn1 hs d) (q : ∀ h, Gr [] hs h → Q (.ok (.bl (roundOk many d))) h) : Wp (r_is_round [.int many, d] hs) Q := by
  unfold r_is_round b_is_round
  simp [is_sized_ok k.1]
  have q0 := q hs .refl
  cases d with
  | tup xs =>
    simp only [sized, roundOk] at q q0 ⊢
    by_cases hl : (xs.length : Int) = many
    · have e : (decide (many ≤ (xs.length : Int)) && decide ((xs.length : Int) ≤ many)) = true := by simp; omega
      simp [hl] at q ⊢
      refine wp_comp_grow [] (missG many) (fun _ _ => trivial) (by rw [enumL_len]; omega) (fun y h hy g => ?_) fun h g => ?_
      · obtain ⟨i, hi⟩ := List.mem_iff_getElem?.mp hy
        obtain ⟨x, hx, rfl⟩ := enumL_at hi
        have kx : Kn h x := (k.2 xs rfl x (List.mem_of_getElem? hx)).gr g
        simp [is_miss_ok kx, missG]
        exact .refl
      · rw [missG_all]
        simp [flags_bl]
        exact q _ (g.trans .push)
    · have e : (decide (many ≤ (xs.length : Int)) && decide ((xs.length : Int) ≤ many)) = false := by simp; omega
      simp [e]
      simpa [hl] using q0
  | _ => simpa [sized, roundOk] using q0
def patOk (many lo hi : Int) : D → Bool
  | .tup rows => decide (lo ≤ rows.length) && decide ((rows.length : Int) ≤ hi) && rows.all (roundOk many)
  | _ => false
theorem is_pattern_of_ok {many lo hi : Int} {r : D} (hr : (r = .non ∧ lo = 0 ∧ hi = 30) ∨ (r = .int lo ∧ hi = lo)) (hh : hi ≤ 1000) (hm : 0 ≤ many ∧ many ≤ 1000) (k : Kn2 hs d) (q : ∀ h, Gr [] hs h → Q (.ok (.bl (patOk many lo hi d))) h) : Wp (r_is_pattern_of [.int many, r, d] hs) Q := by
  have core : ∀ {e : Ev} (Q : Except Ex D → Hs → Prop), e = [some (.int many), some r, some d, some (.int lo), some (.int hi), none] → (∀ h, Gr [] hs h → Q (.ok (.bl (patOk many lo hi d))) h) → Wp (andV (callF 3 r_is_sized (consM (varD 2) (consM (varD 3) (consM (varD 4) (fun _ => M.pure []))))) (callM allD (consM (compM [5] (.one 5) (seqM (varD 2)) (fun _ => M.pure true) (callF 2 r_is_round (consM (varD 0) (consM (varD 5) (fun _ => M.pure []))))) (fun _ => M.pure []))) e hs) Q := by
    rintro e Q rfl q
    simp [is_sized_ok k.1]
    have q0 := q hs .refl
    cases d with
    | tup rows =>
      simp only [sized, patOk] at q q0 ⊢
      by_cases hl : (decide (lo ≤ (rows.length : Int)) && decide ((rows.length : Int) ≤ hi)) = true
      · have h2 := hl
        simp only [Bool.and_eq_true, decide_eq_true_eq] at h2
        simp [h2.1, h2.2] at q ⊢
        refine wp_comp_grow [] (fun x => some (.bl (roundOk many x))) (fun _ _ => trivial) (by omega) (fun y h hy g => ?_) fun h g => ?_
        · simp
          exact is_round_ok hm ((k.2 rows rfl y hy).gr g) fun h' g' => by simp; exact g'
        · have e : rows.filterMap (fun x => some (D.bl (roundOk many x))) = (rows.map (roundOk many)).map .bl := by
            clear q q0 hl h2 k
            induction rows with
            | nil => rfl
            | cons x r ih => simp
          rw [e]
          simp [flags_bl, -List.map_map]
          have := q _ (g.trans (Gr.push (o := .lst ((rows.map (roundOk many)).map .bl))))
          simpa [Function.comp] using this
      · have h2 : (decide (lo ≤ (rows.length : Int)) && decide ((rows.length : Int) ≤ hi)) = false := by simpa using hl
        rw [h2] at q0 ⊢
        simpa using q0
    | _ => simpa [sized, patOk] using q0
  unfold r_is_pattern_of b_is_pattern_of
  rcases hr with ⟨rfl, rfl, rfl⟩ | ⟨rfl, rfl⟩
  · have c := core (onEx (fun d _ hs => some (.ret d, hs)) [some (.int many), some .non, some d, some (.int 0), some (.int 30), none] (onNx nextS (onRun Q))) rfl (fun h g => by simpa using q h g)
    simp at c ⊢
    exact c
  · have c := core (onEx (fun d _ hs => some (.ret d, hs)) [some (.int many), some (.int hi), some d, some (.int hi), some (.int hi), none] (onNx nextS (onRun Q))) rfl (fun h g => by simpa using q h g)
    simp at c ⊢
    exact c
end
end DL
set_option Elab.async false
set_option linter.all false
set_option maxRecDepth 100000
set_option maxHeartbeats 4000000
namespace DL
open PySem PySem.Spec PyProof.Rows L2

/-! ## patterns -/
noncomputable def b__law_entry : Ev → S := (seqS (ifS (asTest (op2 (cmpD .Gt) (callF 2 r__law_draw (consM (varD 0) (consM (varD 3) (fun _ => M.pure [])))) (fun _ => M.pure (.int 0))))
  (seqS (retS (fun _ => M.pure .non))
  nextS)
  nextS)
  (seqS (retS (callF 2 r__law_any (consM (varD 0) (consM (compM [4] (.one 4) (rngM 1 (consM (varD 1) (fun _ => M.pure []))) (asTest (op2 (cmpD .NotEq) (varD 4) (varD 2))) (varD 4)) (fun _ => M.pure [])))))
  nextS))
noncomputable def r__law_entry : List D → M D := runB 5 b__law_entry
noncomputable def b__law_pattern : Ev → S := (seqS (asgS (.many [3, 4]) (tupM (consM (lstM (fun _ => M.pure [])) (consM (callF 2 r__law_any (consM (varD 0) (consM (lstM (consM (fun _ => M.pure (.int 1)) (consM (fun _ => M.pure (.int 2)) (consM (fun _ => M.pure (.int 2)) (consM (fun _ => M.pure (.int 5)) (fun _ => M.pure [])))))) (fun _ => M.pure [])))) (fun _ => M.pure [])))))
  (seqS (loopS (.one 5) (rngM 1 (consM (varD 2) (fun _ => M.pure [])))
  (seqS (ifS (asTest (op2 (cmpD .Eq) (callF 2 r__law_draw (consM (varD 0) (consM (fun _ => M.pure (.int 4)) (fun _ => M.pure [])))) (fun _ => M.pure (.int 0))))
  (seqS (asgS (.one 6) (callF 2 r__law_draw (consM (varD 0) (consM (varD 1) (fun _ => M.pure [])))))
  (seqS (dropS (methM "list" appendD (varD 3) (consM (callM tupleD (consM (compM [7] (.one 7) (rngM 1 (consM (varD 1) (fun _ => M.pure []))) (fun _ => M.pure true) (ifV (asTest (op2 (cmpD .Eq) (varD 7) (varD 6))) (fun _ => M.pure .non) (varD 6))) (fun _ => M.pure []))) (fun _ => M.pure []))))
  nextS))
  (seqS (dropS (methM "list" appendD (varD 3) (consM (callM tupleD (consM (compM [7] (.one 7) (rngM 1 (consM (varD 1) (fun _ => M.pure []))) (fun _ => M.pure true) (callF 4 r__law_entry (consM (varD 0) (consM (varD 1) (consM (varD 7) (consM (varD 4) (fun _ => M.pure []))))))) (fun _ => M.pure []))) (fun _ => M.pure []))))
  nextS))
  nextS))
  (seqS (retS (callM tupleD (consM (varD 3) (fun _ => M.pure []))))
  nextS)))
noncomputable def r__law_pattern : List D → M D := runB 8 b__law_pattern
noncomputable def b_raw_shut_out : Ev → S := (seqS (retS (op2 (binD .Mult) (tupM (consM (callM tupleD (consM (compM [3] (.one 3) (rngM 1 (consM (varD 0) (fun _ => M.pure []))) (fun _ => M.pure true) (ifV (asTest (op2 (cmpD .Eq) (varD 3) (varD 2))) (fun _ => M.pure .non) (varD 2))) (fun _ => M.pure []))) (fun _ => M.pure []))) (varD 1)))
  nextS)
noncomputable def r_raw_shut_out : List D → M D := runB 4 b_raw_shut_out
def encO : Option Int → D
  | none => .non
  | some i => .int i
def encR (r : List (Option Int)) : D := .tup (r.map encO)
def encP (p : List (List (Option Int))) : D := .tup (p.map encR)
def entGood (many me : Int) : Option Int → Prop
  | none => True
  | some x => 0 ≤ x ∧ x < many ∧ x ≠ me
def rowGood (many : Int) (r : List (Option Int)) : Prop := (r.length : Int) = many ∧ ∀ (i : Nat) o, r[i]? = some o → entGood many (i : Nat) o
def patGood (many : Int) (p : List (List (Option Int))) : Prop := ∀ r ∈ p, rowGood many r
theorem sm {n : Int} (h0 : 0 < n) (h : n < 2 ^ 64) : n.natAbs < big := Nat.lt_of_lt_of_le (by omega) small_big
theorem intL_eq {n : Nat} : intL 0 n = (List.range n).map fun (i : Nat) => D.int i := by
  unfold intL
  refine List.map_congr_left fun i _ => ?_
  simp
section
variable {p : Nat} {hs : Hs} {Q : Except Ex D → Hs → Prop}
theorem entry_ok {many me seldom : Int} (h : Pot p hs) (hm : 2 ≤ many ∧ many ≤ 1000) (hs0 : 0 < seldom ∧ seldom < 1000) (k : ∀ o h', entGood many me o → Pg p hs h' → Q (.ok (encO o)) h') : Wp (r__law_entry [.loc p, .int many, .int me, .int seldom] hs) Q := by
  unfold r__law_entry b__law_entry
  simp
  refine draw_ok h hs0.1 (sm hs0.1 (by omega)) fun v h1 a1 a2 g1 => ?_
  simp
  refine ⟨fun _ => k none _ trivial g1, fun _ => ?_⟩
  refine ⟨⟨by omega, by omega⟩, ?_⟩
  refine wp_comp_grow [] (fun d => match d with
    | .int q => if q = me then none else some (.int q)
    | _ => none) (fun _ _ => trivial) (by simp [intL_len]; omega) (fun d h2 hd g2 => ?_) fun h2 g2 => ?_
  · obtain ⟨i, hi⟩ := List.mem_iff_getElem?.mp hd
    obtain ⟨hi, rfl⟩ := intL_at hi
    simp
    by_cases e : (i : Int) = me
    · simp [e]; exact .refl
    · simp [e]; exact .refl
  · have g3 : Pg p h1 h2 := .of g1.pot g2
    have hlt := g3.pot.lt
    generalize hL : List.filterMap _ (intL 0 many.toNat) = L
    have mem : ∀ x ∈ L, ∃ q : Int, x = .int q ∧ 0 ≤ q ∧ q < many ∧ q ≠ me := by
      intro x hx
      rw [← hL] at hx
      obtain ⟨d, hd, e⟩ := List.mem_filterMap.mp hx
      obtain ⟨i, hi⟩ := List.mem_iff_getElem?.mp hd
      obtain ⟨hi, rfl⟩ := intL_at hi
      simp at e
      exact ⟨i, e.2.symm, by omega, by omega, e.1⟩
    have ne : L ≠ [] := by
      have two : ∀ j : Nat, (j : Int) < many → (j : Int) ≠ me → L ≠ [] := fun j hj hne e => by
        have : D.int j ∈ L := by
          rw [← hL]
          refine List.mem_filterMap.mpr ⟨.int j, ?_, by simp [hne]⟩
          rw [intL_eq]
          exact List.mem_map.mpr ⟨j, by simp; omega, rfl⟩
        rw [e] at this
        simp at this
      by_cases e : (0 : Int) = me
      · exact two 1 (by omega) (by omega)
      · exact two 0 (by omega) (by omega)
    have len : L.length ≤ 1000 := by
      rw [← hL]
      exact Nat.le_trans (List.length_filterMap_le _ _) (by rw [intL_len]; omega)
    refine any_ok (g3.pot.gr .push) (.loc cell_push (by omega)) ne (by omega) fun x h4 hx g4 => ?_
    obtain ⟨q, rfl, q1, q2, q3⟩ := mem x hx
    simp
    exact k (some q) _ ⟨q1, q2, q3⟩ ((g1.trans g3).trans ((Pg.push g3.pot).trans g4))
def shutG (i : Int) : D → Option D
  | .int q => some (if q = i then .non else .int i)
  | _ => none
def shutR (n : Nat) (i : Int) : List (Option Int) := (List.range n).map fun (j : Nat) => if (j : Int) = i then none else some i
theorem shut_map {n : Nat} {i : Int} : (intL 0 n).filterMap (shutG i) = (shutR n i).map encO := by
  unfold shutR
  rw [intL_eq, List.filterMap_map, List.map_map, ← List.filterMap_eq_map]
  refine fm_congr fun j _ => ?_
  by_cases e : (j : Int) = i <;> simp [e, encO, shutG]
theorem shut_good {many i : Int} {n : Nat} (hn : (n : Int) = many) (hi : 0 ≤ i ∧ i < many) : rowGood many (shutR n i) := by
  refine ⟨by simpa [shutR] using hn, fun j o ho => ?_⟩
  unfold shutR at ho
  rw [List.getElem?_map] at ho
  by_cases hj : j < n
  · rw [List.getElem?_range hj] at ho
    simp at ho
    subst ho
    by_cases e : (j : Int) = i
    · simp [e, entGood]
    · simp [e, entGood]; omega
  · rw [List.getElem?_eq_none (by simpa using hj)] at ho
    cases ho
theorem pattern_ok {many rounds : Int} (h : Pot p hs) (hm : 3 ≤ many ∧ many ≤ 5) (hr : 0 ≤ rounds ∧ rounds ≤ 30) (k : ∀ pat h', (pat.length : Int) = rounds → patGood many pat → Pg p hs h' → Q (.ok (encP pat)) h') : Wp (r__law_pattern [.loc p, .int many, .int rounds] hs) Q := by
  have hlt := h.lt
  unfold r__law_pattern b__law_pattern
  simp
  have h0 : Pot p (hs ++ [.lst []]) := h.gr .push
  refine any_ok (h.gr .app) (d := .loc (hs.length + 1)) (xs := [.int 1, .int 2, .int 2, .int 5]) (.loc (by simp) (by omega)) (by simp) (by simp) fun x h1 hx g1 => ?_
  obtain ⟨sel, rfl, hsel⟩ : ∃ sel, x = .int sel ∧ 0 < sel ∧ sel < 1000 := by
    simp only [List.mem_cons, List.not_mem_nil, or_false] at hx
    rcases hx with rfl | rfl | rfl | rfl <;> refine ⟨_, rfl, ?_⟩ <;> omega
  simp
  refine ⟨⟨by omega, by omega⟩, ?_⟩
  have gA : Pg p hs h1 := (Pg.of h .app).trans g1
  have gn : hs.length < h1.length := by
    have := g1.gr.le
    simp at this
    omega
  refine wp_for (fun i e h => ∃ (rows : List (List (Option Int))) (x5 x6 x7 : Option D), e = [some (.loc p), some (.int many), some (.int rounds), some (.loc hs.length), some (.int sel), x5, x6, x7] ∧ rows.length = i ∧ patGood many rows ∧ Pg p hs h ∧ hs.length < h.length ∧ cell h hs.length = some (.lst (rows.map encR))) ⟨[], _, _, _, rfl, rfl, fun r hr => by simp at hr, gA, gn, ?_⟩ ?_ ?_
  · have := g1.get (n := hs.length) (o := .lst []) (by simp) (by omega)
    simpa using this
  · rintro i d e h' hi ⟨rows, x5, x6, x7, rfl, hl, good, g, hln, hc⟩
    refine ⟨trivial, ?_⟩
    have hi30 : i < 30 := by
      have := (List.getElem?_eq_some_iff.mp hi).1
      rw [intL_len] at this
      omega
    simp
    refine draw_ok g.pot (by decide) (sm (by decide) (by decide)) fun v h2 a1 a2 g2 => ?_
    have app : ∀ {r : List (Option Int)} {h3 : Hs}, rowGood many r → Pg p h2 h3 → ∃ xs, cell h3 hs.length = some (.lst xs) ∧ xs.length < sizeLine ∧ ∃ x : List (List (Option Int)), x.length = i + 1 ∧ patGood many x ∧ Pg p hs (h3.set hs.length (.lst (xs ++ [encR r]))) ∧ hs.length < h3.length ∧ cell (h3.set hs.length (.lst (xs ++ [encR r]))) hs.length = some (.lst (x.map encR)) := fun {r h3} gr g3 => by
      have g4 := (g.trans g2).trans g3
      have q3 : cell h3 hs.length = some (.lst (rows.map encR)) := (g2.trans g3).get hc (by omega)
      have q4 := cell_lt q3
      refine ⟨_, q3, small1000 (by simp; omega), rows ++ [r], by simp [hl], fun q hq => ?_, g4.set (Nat.le_refl _) hlt, q4, by simp [q4]⟩
      rcases List.mem_append.mp hq with hq | hq
      · exact good q hq
      · rw [List.mem_singleton.mp hq]; exact gr
    simp
    refine ⟨fun hv => ?_, fun hv => ?_⟩
    · refine draw_ok g2.pot (by omega) (sm (by omega) (by omega)) fun w h3 b1 b2 g3 => ?_
      simp
      have full : (many.toNat : Int) = many := by omega
      obtain ⟨q3, q4⟩ : cell h3 hs.length = some (.lst (rows.map encR)) ∧ hs.length < h3.length := ⟨(g2.trans g3).get hc (by omega), by have := (g2.trans g3).gr.le; omega⟩
      refine ⟨⟨_, q3⟩, ⟨by omega, by omega⟩, ?_⟩
      refine wp_comp_grow [] (shutG w) (fun _ _ => trivial) (by rw [intL_len]; omega) (fun d h4 hd g4 => ?_) fun h4 g4 => ?_
      · obtain ⟨j, hj⟩ := List.mem_iff_getElem?.mp hd
        obtain ⟨hj, rfl⟩ := intL_at hj
        by_cases e : (j : Int) = w <;> simp [e, shutG] <;> exact .refl
      · rw [shut_map]
        obtain ⟨xs, c1, c2, x, c3, c4, c5, c6, c7⟩ := app (shut_good full ⟨b1, b2⟩) ((g3.trans (.of g3.pot g4)).trans (Pg.push (g3.pot.gr g4) (o := .lst ((shutR many.toNat w).map encO))))
        exact ⟨xs, c1, c2, x, c3, c4, c5, by simpa using c6, c7⟩
    · refine ⟨⟨_, (g2.get hc (by omega))⟩, ⟨by omega, by omega⟩, ?_⟩
      refine wp_comp (fun j acc h => ∃ r : List (Option Int), acc = r.map encO ∧ r.length = j ∧ (∀ (k : Nat) o, r[k]? = some o → entGood many (k : Nat) o) ∧ Pg p h2 h) ⟨[], rfl, rfl, fun k o ho => by simp at ho, .refl g2.pot⟩ ?_ ?_
      · rintro j d acc h4 hj ⟨r, rfl, hl2, gr, g4⟩
        obtain ⟨hj, rfl⟩ := intL_at hj
        refine ⟨trivial, ?_⟩
        simp
        refine entry_ok g4.pot (by omega) hsel fun o h5 go g5 => ?_
        simp
        refine ⟨small1000 (by omega), r ++ [o], by simp, by simp [hl2], fun k o2 ho => ?_, g4.trans g5⟩
        by_cases hk : k < r.length
        · rw [List.getElem?_append_left hk] at ho
          exact gr k o2 ho
        · rw [List.getElem?_append_right (by omega)] at ho
          have : k - r.length = 0 := by
            have := (List.getElem?_eq_some_iff.mp ho).1
            simpa using this
          rw [this] at ho
          simp at ho
          subst ho
          have : k = j := by omega
          subst this
          exact go
      · rintro acc h4 ⟨r, rfl, hl2, gr, g4⟩
        refine ⟨trivial, ?_⟩
        rw [intL_len] at hl2
        obtain ⟨xs, c1, c2, x, c3, c4, c5, c6, c7⟩ := app (r := r) ⟨by omega, gr⟩ (g4.trans (Pg.push g4.pot (o := .lst (r.map encO))))
        exact ⟨xs, c1, c2, x, c3, c4, c5, by simpa using c6, c7⟩
  · rintro e h' ⟨rows, x5, x6, x7, rfl, hl, good, g, hln, hc⟩
    refine ⟨trivial, ?_⟩
    simp [hc]
    refine k rows _ ?_ good g
    rw [hl, intL_len]
    omega
end
end DL
set_option Elab.async false
set_option linter.all false
set_option maxRecDepth 100000
set_option maxHeartbeats 4000000
namespace DL
open PySem PySem.Spec PyProof.Rows L2

/-! ## patterns as data -/
def pdO : Option Int → PyData
  | none => .none
  | some i => .int i
def pdR (r : List (Option Int)) : PyData := .tuple (r.map pdO)
def pdP (p : List (List (Option Int))) : PyData := .tuple (p.map pdR)
section
variable {hs : Hs} {Q : D → Hs → Prop}
theorem pys_map {α : Type} {f : Nat → Option PyData} {enc : α → D} {pd : α → PyData} (h : ∀ a, (enc a).py f = some (pd a)) : ∀ {l : List α}, D.pys f (l.map enc) = some (l.map pd)
  | [] => rfl
  | a :: l => by simp [D.pys, h, pys_map h (l := l)]
theorem py_o {f : Nat → Option PyData} (o : Option Int) : (encO o).py f = some (pdO o) := by cases o <;> rfl
theorem py_r {f : Nat → Option PyData} (r : List (Option Int)) : (encR r).py f = some (pdR r) := by
  unfold encR pdR
  simp only [D.py, pys_map py_o]
  rfl
theorem data_o (o : Option Int) : (encO o).data hs = some (pdO o) := py_o o
theorem data_r (r : List (Option Int)) : (encR r).data hs = some (pdR r) := py_r r
theorem data_p (p : List (List (Option Int))) : (encP p).data hs = some (pdP p) := by
  unfold encP pdP D.data
  simp only [D.py, pys_map py_r]
  rfl
theorem depthAll_le {α : Type} {pd : α → PyData} {n : Nat} (h : ∀ a, (pd a).depth ≤ n) : ∀ {l : List α}, PyData.depthAll (l.map pd) ≤ n
  | [] => by simp [PyData.depthAll]
  | a :: l => by
    have := h a
    have ih := depthAll_le h (l := l)
    simp only [List.map_cons, PyData.depthAll]
    omega
theorem canLayAll_of {α : Type} {pd : α → PyData} (h : ∀ a, (pd a).canLay0 = true) : ∀ {l : List α}, PyData.canLayAll0 (l.map pd) = true
  | [] => by simp [PyData.canLayAll0]
  | a :: l => by simp [PyData.canLayAll0, h a, canLayAll_of h (l := l)]
theorem lay_o (o : Option Int) : (pdO o).canLay0 = true ∧ (pdO o).depth ≤ 1 := by cases o <;> simp [pdO, PyData.canLay0, PyData.depth]
theorem lay_r (r : List (Option Int)) : (pdR r).canLay0 = true ∧ (pdR r).depth ≤ 2 := by
  have := depthAll_le (pd := pdO) (n := 1) (fun o => (lay_o o).2) (l := r)
  refine ⟨?_, ?_⟩
  · simp [pdR, PyData.canLay0, canLayAll_of (pd := pdO) fun o => (lay_o o).1]
  · simp [pdR, PyData.depth]; omega
theorem lay_p (p : List (List (Option Int))) : (pdP p).canLay0 = true ∧ (pdP p).depth ≤ 3 := by
  have := depthAll_le (pd := pdR) (n := 2) (fun o => (lay_r o).2) (l := p)
  refine ⟨?_, ?_⟩
  · simp [pdP, PyData.canLay0, canLayAll_of (pd := pdR) fun o => (lay_r o).1]
  · simp [pdP, PyData.depth]; omega
theorem shaped_of {d : PyData} (h : d.canLay0 = true) (h2 : d.depth ≤ 60) : SeqAt.shaped d = true := by
  unfold SeqAt.shaped
  rw [h]
  simp
  omega
theorem shp_o (o : Option Int) : SeqAt.shaped (pdO o) = true := shaped_of (lay_o o).1 (by have := (lay_o o).2; omega)
theorem shp_r (r : List (Option Int)) : SeqAt.shaped (pdR r) = true := shaped_of (lay_r r).1 (by have := (lay_r r).2; omega)
theorem shp_p (p : List (List (Option Int))) : SeqAt.shaped (pdP p) = true := shaped_of (lay_p p).1 (by have := (lay_p p).2; omega)
theorem eqvAll_map {α : Type} [DecidableEq α] {pd : α → PyData} (h : ∀ a b, PyData.eqv (pd a) (pd b) = decide (a = b)) : ∀ {l m : List α}, PyData.eqvAll (l.map pd) (m.map pd) = decide (l = m)
  | [], [] => by simp [PyData.eqvAll]
  | [], _ :: _ => by simp [PyData.eqvAll]
  | _ :: _, [] => by simp [PyData.eqvAll]
  | a :: l, b :: m => by
    simp only [List.map_cons, PyData.eqvAll, h, eqvAll_map h (l := l) (m := m)]
    by_cases e : a = b <;> by_cases e2 : l = m <;> simp [e, e2]
theorem eqv_o (a b : Option Int) : PyData.eqv (pdO a) (pdO b) = decide (a = b) := by
  cases a <;> cases b <;> simp [pdO, PyData.eqv]
  rename_i i j
  by_cases e : i = j <;> simp [e]
theorem eqv_r (a b : List (Option Int)) : PyData.eqv (pdR a) (pdR b) = decide (a = b) := by
  unfold pdR
  rw [PyData.eqv]
  exact eqvAll_map eqv_o
theorem eqv_p (a b : List (List (Option Int))) : PyData.eqv (pdP a) (pdP b) = decide (a = b) := by
  unfold pdP
  rw [PyData.eqv]
  exact eqvAll_map eqv_r
theorem eq_oo (a b : Option Int) : eqD hs (encO a) (encO b) = some (decide (a = b)) := by rw [eqD_of (data_o a) (data_o b) (shp_o a) (shp_o b), eqv_o]
theorem eq_rr (a b : List (Option Int)) : eqD hs (encR a) (encR b) = some (decide (a = b)) := by rw [eqD_of (data_r a) (data_r b) (shp_r a) (shp_r b), eqv_r]
theorem eq_pp (a b : List (List (Option Int))) : eqD hs (encP a) (encP b) = some (decide (a = b)) := by rw [eqD_of (data_p a) (data_p b) (shp_p a) (shp_p b), eqv_p]
/-! a good pattern is judged right -/
theorem miss_enc {many : Int} {me : Nat} {o : Option Int} (h : entGood many me o) : miss many me (encO o) = true := by
  cases o with
  | none => rfl
  | some x =>
    obtain ⟨h1, h2, h3⟩ := h
    simp [encO, miss, h1, h3]
    omega
theorem missL_enc {many : Int} : ∀ {r : List (Option Int)} {k : Nat}, (∀ (i : Nat) o, r[i]? = some o → entGood many ((k + i : Nat)) o) → (missL many k (r.map encO)).all id = true
  | [], _, _ => rfl
  | o :: r, k, h => by
    simp only [List.map_cons, missL, List.all_cons, id, Bool.and_eq_true]
    refine ⟨miss_enc (by simpa using h 0 o rfl), missL_enc fun i o ho => ?_⟩
    have := h (i + 1) o (by simpa using ho)
    have e : k + (i + 1) = k + 1 + i := by omega
    rwa [e] at this
theorem roundOk_enc {many : Int} {r : List (Option Int)} (h : rowGood many r) : roundOk many (encR r) = true := by
  have e := missL_enc (many := many) (r := r) (k := 0) fun i o ho => by simpa using h.2 i o ho
  unfold encR roundOk
  simp only [e]
  simp [h.1]
theorem patOk_enc {many lo hi : Int} {p : List (List (Option Int))} (h : patGood many p) (h1 : lo ≤ p.length) (h2 : (p.length : Int) ≤ hi) : patOk many lo hi (encP p) = true := by
  unfold encP patOk
  simp [h1, h2]
  exact fun r hr => roundOk_enc (h r hr)
theorem kn_o (o : Option Int) : Kn hs (encO o) := by
  cases o
  · exact .non
  · exact .int
theorem kn_r (r : List (Option Int)) : Kn1 hs (encR r) := ⟨.tup, fun xs e x hx => by
  unfold encR at e
  cases e
  obtain ⟨o, _, rfl⟩ := List.mem_map.mp hx
  exact kn_o o⟩
theorem kn_p (p : List (List (Option Int))) : Kn2 hs (encP p) := ⟨.tup, fun xs e x hx => by
  unfold encP at e
  cases e
  obtain ⟨o, _, rfl⟩ := List.mem_map.mp hx
  exact kn_r o⟩
end
end DL
set_option Elab.async false
set_option linter.all false
set_option maxRecDepth 100000
set_option maxHeartbeats 4000000
namespace DL
open PySem PySem.Spec PyProof.Rows L2

/-! ## figures of numbers -/
/-- the figures, the last one first -/
def figL (b : Int) : Nat → Int → List Int
  | 0, _ => []
  | R + 1, n => n % b :: figL b R (n / b)
/-- .. the first one first -/
def figs (b : Int) (R : Nat) (n : Int) : List Int := (figL b R n).reverse
def val (b : Int) (l : List Int) : Int := l.foldl (fun a d => a * b + d) 0
theorem figL_len {b : Int} : ∀ {R : Nat} {n : Int}, (figL b R n).length = R
  | 0, _ => rfl
  | R + 1, n => by simp [figL, figL_len (R := R)]
theorem figs_len {b : Int} {R : Nat} {n : Int} : (figs b R n).length = R := by simp [figs, figL_len]
theorem figL_succ {b : Int} (hb : 0 < b) : ∀ {R : Nat} {n : Int}, figL b (R + 1) n = figL b R n ++ [n / b ^ R % b]
  | 0, n => by simp [figL]
  | R + 1, n => by
    show n % b :: figL b (R + 1) (n / b) = _
    rw [figL_succ hb (R := R)]
    have e : n / b / b ^ R = n / b ^ (R + 1) := by
      rw [Int.ediv_ediv_of_nonneg (by omega), Int.pow_succ, Int.mul_comm]
    rw [e]
    rfl
theorem figL_bd {b : Int} (hb : 0 < b) : ∀ {R : Nat} {n : Int}, ∀ d ∈ figL b R n, 0 ≤ d ∧ d < b
  | 0, _, _, h => by cases h
  | R + 1, n, d, h => by
    rcases List.mem_cons.mp h with rfl | h
    · exact ⟨Int.emod_nonneg _ (by omega), Int.emod_lt_of_pos _ hb⟩
    · exact figL_bd hb d h
theorem figs_bd {b : Int} (hb : 0 < b) {R : Nat} {n : Int} : ∀ d ∈ figs b R n, 0 ≤ d ∧ d < b := fun d h => figL_bd hb d (List.mem_reverse.mp h)
theorem val_snoc {b : Int} {l : List Int} {d : Int} : val b (l ++ [d]) = val b l * b + d := by simp [val, List.foldl_append]
theorem val_figs {b : Int} (hb : 0 < b) : ∀ {R : Nat} {n : Int}, 0 ≤ n → n < b ^ R → val b (figs b R n) = n
  | 0, n, h0, h1 => by
    have : n = 0 := by simp at h1; omega
    subst this
    rfl
  | R + 1, n, h0, h1 => by
    have e : figs b (R + 1) n = figs b R (n / b) ++ [n % b] := by simp [figs, figL]
    rw [e, val_snoc, val_figs hb (Int.ediv_nonneg h0 (by omega)) (by
      rw [Int.ediv_lt_iff_lt_mul hb, ← Int.pow_succ]; exact h1)]
    have := Int.emod_add_mul_ediv n b
    rw [Int.mul_comm] at this
    omega
theorem figs_val_rev {b : Int} (hb : 0 < b) : ∀ (m : List Int), (∀ d ∈ m, 0 ≤ d ∧ d < b) → figs b m.length (val b m.reverse) = m.reverse
  | [], _ => rfl
  | d :: m, h => by
    have hd := h d List.mem_cons_self
    have ih := figs_val_rev hb m fun x hx => h x (List.mem_cons_of_mem _ hx)
    rw [List.reverse_cons, val_snoc]
    have e : figs b (m.length + 1) (val b m.reverse * b + d) = figs b m.length ((val b m.reverse * b + d) / b) ++ [(val b m.reverse * b + d) % b] := by simp [figs, figL]
    show figs b (m.length + 1) _ = _
    rw [e]
    have e1 : (val b m.reverse * b + d) / b = val b m.reverse := by
      rw [Int.add_comm, Int.add_mul_ediv_right _ _ (by omega), Int.ediv_eq_zero_of_lt hd.1 hd.2]
      omega
    have e2 : (val b m.reverse * b + d) % b = d := by
      rw [Int.add_comm, Int.add_mul_emod_self_right, Int.emod_eq_of_lt hd.1 hd.2]
    rw [e1, e2, ih]
theorem figs_val {b : Int} (hb : 0 < b) (l : List Int) (h : ∀ d ∈ l, 0 ≤ d ∧ d < b) : figs b l.length (val b l) = l := by
  have := figs_val_rev hb l.reverse fun d hd => h d (List.mem_reverse.mp hd)
  simpa using this
theorem val_bd_rev {b : Int} (hb : 0 < b) : ∀ (m : List Int), (∀ d ∈ m, 0 ≤ d ∧ d < b) → 0 ≤ val b m.reverse ∧ val b m.reverse < b ^ m.length
  | [], _ => ⟨by simp [val], by simp [val]⟩
  | d :: m, h => by
    have hd := h d List.mem_cons_self
    have ⟨h1, h2⟩ := val_bd_rev hb m fun x hx => h x (List.mem_cons_of_mem _ hx)
    rw [List.reverse_cons, val_snoc]
    refine ⟨by have := Int.mul_nonneg h1 (Int.le_of_lt hb); omega, ?_⟩
    have : (val b m.reverse + 1) * b ≤ b ^ m.length * b := Int.mul_le_mul_of_nonneg_right (by omega) (by omega)
    have e : (val b m.reverse + 1) * b = val b m.reverse * b + b := by rw [Int.add_mul]; omega
    show _ < b ^ (m.length + 1)
    rw [Int.pow_succ]
    omega
theorem val_bd {b : Int} (hb : 0 < b) (l : List Int) (h : ∀ d ∈ l, 0 ≤ d ∧ d < b) : 0 ≤ val b l ∧ val b l < b ^ l.length := by
  have := val_bd_rev hb l.reverse fun d hd => h d (List.mem_reverse.mp hd)
  simpa using this
theorem val_app {b : Int} : ∀ {m : List Int} {a : Int}, m.foldl (fun a d => a * b + d) a = a * b ^ m.length + val b m
  | [], a => by simp [val]
  | d :: m, a => by
    have e1 := val_app (b := b) (m := m) (a := a * b + d)
    have e2 := val_app (b := b) (m := m) (a := 0 * b + d)
    show m.foldl (fun a d => a * b + d) (a * b + d) = a * b ^ (m.length + 1) + m.foldl (fun a d => a * b + d) (0 * b + d)
    rw [e1, e2, Int.pow_succ, Int.add_mul, Int.zero_mul, Int.zero_add, Int.mul_assoc, Int.mul_comm b]
    omega
theorem val_append {b : Int} {l m : List Int} : val b (l ++ m) = val b l * b ^ m.length + val b m := by
  show (l ++ m).foldl _ 0 = _
  rw [List.foldl_append]
  exact val_app
theorem val_zeros {b : Int} : ∀ {k : Nat}, val b (List.replicate k 0) = 0
  | 0 => rfl
  | k + 1 => by
    rw [List.replicate_succ', val_snoc, val_zeros]
    omega
theorem val_tops {b : Int} : ∀ {k : Nat}, val b (List.replicate k (b - 1)) = b ^ k - 1
  | 0 => by simp [val]
  | k + 1 => by
    rw [List.replicate_succ', val_snoc, val_tops, Int.sub_mul, Int.pow_succ]
    omega
/-- one less: the last figure that isn't 0 goes down, the zeros behind it go to the top -/
theorem val_pred {b : Int} {A : List Int} {f : Int} {k : Nat} : val b (A ++ (f - 1) :: List.replicate k (b - 1)) = val b (A ++ f :: List.replicate k 0) - 1 := by
  have e1 : A ++ (f - 1) :: List.replicate k (b - 1) = (A ++ [f - 1]) ++ List.replicate k (b - 1) := by simp
  have e2 : A ++ f :: List.replicate k 0 = (A ++ [f]) ++ List.replicate k 0 := by simp
  rw [e1, e2, val_append (l := A ++ [f - 1]), val_append (l := A ++ [f]), val_snoc, val_snoc, val_zeros, val_tops, List.length_replicate, List.length_replicate]
  have : (val b A * b + (f - 1)) * b ^ k = (val b A * b + f) * b ^ k - b ^ k := by
    rw [show val b A * b + (f - 1) = (val b A * b + f) - 1 by omega, Int.sub_mul, Int.one_mul]
  omega
end DL
set_option Elab.async false
set_option linter.all false
set_option maxRecDepth 100000
set_option maxHeartbeats 4000000
namespace DL
open PySem PySem.Spec PyProof.Rows L2

/-! ## chains -/
noncomputable def b_check_pattern : Ev → S := (seqS (ifS (notM (truth (callF 3 r_is_pattern_of (consM (varD 0) (consM (varD 1) (consM (varD 2) (fun _ => M.pure [])))))))
  (seqS stuckS
  nextS)
  nextS)
  nextS)
noncomputable def r_check_pattern : List D → M D := runB 3 b_check_pattern
noncomputable def b_figures_of : Ev → S := (seqS (asgS (.one 3) (lstM (fun _ => M.pure [])))
  (seqS (loopS (.one 4) (rngM 1 (consM (varD 1) (fun _ => M.pure [])))
  (seqS (dropS (methM "list" appendD (varD 3) (consM (op2 (binD .Mod) (varD 2) (varD 0)) (fun _ => M.pure []))))
  (seqS (augS .FloorDiv 2 (varD 0))
  nextS)))
  (seqS (retS (revM (varD 3)))
  nextS)))
noncomputable def r_figures_of : List D → M D := runB 5 b_figures_of
noncomputable def b_links_of : Ev → S := (seqS (asgS (.one 2) (fun _ => M.pure (.int 1)))
  (seqS (loopS (.one 3) (rngM 1 (consM (varD 1) (fun _ => M.pure [])))
  (seqS (asgS (.one 2) (op2 (binD .Mult) (varD 2) (op2 (binD .Add) (varD 0) (fun _ => M.pure (.int 1)))))
  nextS))
  (seqS (retS (varD 2))
  nextS)))
noncomputable def r_links_of : List D → M D := runB 4 b_links_of
noncomputable def b_raw_chain : Ev → S := (seqS (asgS (.one 4) (callM lenD (consM (varD 1) (fun _ => M.pure []))))
  (seqS (asgS (.one 5) (lstM (fun _ => M.pure [])))
  (seqS (loopS (.many [6, 7]) (fun e => M.bind ((consM (callF 3 r_figures_of (consM (op2 (binD .Add) (varD 0) (fun _ => M.pure (.int 1))) (consM (varD 4) (consM (varD 3) (fun _ => M.pure []))))) (fun _ => M.pure [])) e) enumSrc)
  (seqS (dropS (methM "list" appendD (varD 5) (consM (op2 (binD .Add) (sliceM (op2 ixD (varD 2) (varD 6)) (fun _ => M.pure none) (fun v => M.bind ((varD 7) v) partD)) (sliceM (op2 ixD (varD 1) (varD 6)) (fun v => M.bind ((varD 7) v) partD) (fun _ => M.pure none))) (fun _ => M.pure []))))
  (seqS (ifS (asTest (op2 (cmpD .Gt) (varD 7) (fun _ => M.pure (.int 0))))
  (seqS (asgS (.one 1) (callF 3 r_raw_shut_out (consM (varD 0) (consM (varD 4) (consM (op2 (binD .Sub) (varD 7) (fun _ => M.pure (.int 1))) (fun _ => M.pure []))))))
  nextS)
  nextS)
  (seqS (ifS (asTest (op2 (cmpD .Lt) (varD 7) (varD 0)))
  (seqS (asgS (.one 2) (callF 3 r_raw_shut_out (consM (varD 0) (consM (varD 4) (consM (varD 7) (fun _ => M.pure []))))))
  nextS)
  nextS)
  nextS))))
  (seqS (retS (callM tupleD (consM (varD 5) (fun _ => M.pure []))))
  nextS))))
noncomputable def r_raw_chain : List D → M D := runB 8 b_raw_chain
noncomputable def b_chain_at : Ev → S := (seqS (dropS (callF 1 r_check_many (consM (varD 0) (fun _ => M.pure []))))
  (seqS (dropS (callF 3 r_check_pattern (consM (varD 0) (consM (fun _ => M.pure .non) (consM (varD 1) (fun _ => M.pure []))))))
  (seqS (dropS (callF 3 r_check_pattern (consM (varD 0) (consM (callM lenD (consM (varD 1) (fun _ => M.pure []))) (consM (varD 2) (fun _ => M.pure []))))))
  (seqS (ifS (notM (truth (callF 3 r_is_within (consM (varD 3) (consM (fun _ => M.pure (.int 0)) (consM (op2 (binD .Sub) (callF 2 r_links_of (consM (varD 0) (consM (callM lenD (consM (varD 1) (fun _ => M.pure []))) (fun _ => M.pure [])))) (fun _ => M.pure (.int 1))) (fun _ => M.pure [])))))))
  (seqS stuckS
  nextS)
  nextS)
  (seqS (retS (callF 4 r_raw_chain (consM (varD 0) (consM (varD 1) (consM (varD 2) (consM (varD 3) (fun _ => M.pure [])))))))
  nextS)))))
noncomputable def r_chain_at : List D → M D := runB 4 b_chain_at
theorem cut_to {xs : List D} {n : Int} (h : 0 ≤ n) : cutD xs none (some n) = xs.take n.toNat := cut_nil h
theorem cut_from {xs : List D} {n : Int} (h : 0 ≤ n) : cutD xs (some n) none = xs.drop n.toNat := by
  unfold cutD HT.sIx
  simp only
  rw [if_neg (by omega)]
  by_cases q : n.toNat ≤ xs.length
  · rw [Nat.min_eq_left q, List.take_of_length_le (by simp)]
  · rw [Nat.min_eq_right (by omega), List.drop_eq_nil_of_le (by omega), List.drop_eq_nil_of_le (by omega)]
    simp
section
variable {e : Ev} {hs : Hs} {R : Fl → Hs → Prop}
@[simp] theorem aug_fdiv {n : Nat} {i j : Int} : Wp (augK .FloorDiv n (.int i) (.int j) e hs) R = ((0 < j ∧ j < 1073741824) ∧ R (.nx (e.set n (some (.int (i / j))))) hs) := by
  unfold augK augD
  simp only
  by_cases h : 0 < j ∧ j < 1073741824
  · rw [if_pos h]; simp only [h, true_and]; rfl
  · rw [if_neg h]; simp only [h, false_and]; rfl
@[simp] theorem aug_sub {n : Nat} {i j : Int} : Wp (augK .Sub n (.int i) (.int j) e hs) R = R (.nx (e.set n (some (.int (i - j))))) hs := rfl
@[simp] theorem aug_add {n : Nat} {i j : Int} : Wp (augK .Add n (.int i) (.int j) e hs) R = R (.nx (e.set n (some (.int (i + j))))) hs := rfl
end
def shutP (many R : Nat) (i : Int) : List (List (Option Int)) := List.replicate R (shutR many i)
section
variable {hs : Hs} {Q : Except Ex D → Hs → Prop}
theorem raw_shut_ok {many rounds i : Int} (hm : 0 ≤ many ∧ many ≤ 1000) (hr : 0 ≤ rounds ∧ rounds ≤ 1000) (q : ∀ h, Gr [] hs h → Q (.ok (encP (shutP many.toNat rounds.toNat i))) h) : Wp (r_raw_shut_out [.int many, .int rounds, .int i] hs) Q := by
  unfold r_raw_shut_out b_raw_shut_out
  simp
  refine ⟨⟨by omega, by omega⟩, ?_⟩
  refine wp_comp_grow [] (shutG i) (fun _ _ => trivial) (by rw [intL_len]; omega) (fun d h4 hd g4 => ?_) fun h4 g4 => ?_
  · obtain ⟨j, hj⟩ := List.mem_iff_getElem?.mp hd
    obtain ⟨hj, rfl⟩ := intL_at hj
    by_cases e : (j : Int) = i <;> simp [e, shutG] <;> exact .refl
  · rw [shut_map]
    rw [wp_tup_mul ⟨by omega, by omega, by simp⟩]
    have := q _ (g4.trans (Gr.push (o := .lst ((shutR many.toNat i).map encO))))
    simpa [encP, encR, shutP] using this
theorem check_pattern_ok {many : Int} {pat : List (List (Option Int))} {r : D} (hm : 0 ≤ many ∧ many ≤ 1000) (good : patGood many pat) (hl : pat.length ≤ 30) (hr : r = .non ∨ r = .int pat.length) (q : ∀ h, Gr [] hs h → Q (.ok .non) h) : Wp (r_check_pattern [.int many, r, encP pat] hs) Q := by
  unfold r_check_pattern b_check_pattern
  rcases hr with rfl | rfl
  · simp
    refine is_pattern_of_ok (lo := 0) (hi := 30) (.inl ⟨rfl, rfl, rfl⟩) (by omega) hm (kn_p pat) fun h g => ?_
    rw [patOk_enc good (by omega) (by omega)]
    simpa using q h g
  · simp
    refine is_pattern_of_ok (lo := pat.length) (hi := pat.length) (.inr ⟨rfl, rfl⟩) (by omega) hm (kn_p pat) fun h g => ?_
    rw [patOk_enc good (by omega) (by omega)]
    simpa using q h g
theorem links_ok {many rounds : Int} (hm : 0 ≤ many ∧ many ≤ 1000) (hr : 0 ≤ rounds ∧ rounds ≤ 1000) (q : Q (.ok (.int ((many + 1) ^ rounds.toNat))) hs) : Wp (r_links_of [.int many, .int rounds] hs) Q := by
  have m2 : ∀ x, mulOk x (many + 1) := fun x => .r (by omega) (by omega)
  unfold r_links_of b_links_of
  simp
  refine ⟨⟨by omega, by omega⟩, ?_⟩
  refine wp_for (fun i e h => ∃ x, e = [some (.int many), some (.int rounds), some (.int ((many + 1) ^ i)), x] ∧ h = hs) ⟨none, by simp, rfl⟩ ?_ ?_
  · rintro i d e h hi ⟨x, rfl, rfl⟩
    refine ⟨trivial, ?_⟩
    simp [m2, Int.pow_succ]
  · rintro e h ⟨x, rfl, rfl⟩
    refine ⟨trivial, ?_⟩
    rw [intL_len]
    simpa using q
theorem figures_ok {base places n : Int} (hb : 0 < base ∧ base < 1000) (hp : 0 ≤ places ∧ places ≤ 900) (hn : 0 ≤ n) (q : ∀ k h, hs.length ≤ k → cell h k = some (.lst ((figs base places.toNat n).map .int)) → Gr [] hs h → Q (.ok (.loc k)) h) : Wp (r_figures_of [.int base, .int places, .int n] hs) Q := by
  unfold r_figures_of b_figures_of
  simp
  refine ⟨⟨by omega, by omega⟩, ?_⟩
  refine wp_for (fun i e h => ∃ x, e = [some (.int base), some (.int places), some (.int (n / base ^ i)), some (.loc hs.length), x] ∧ Gr [] hs h ∧ cell h hs.length = some (.lst ((figL base i n).map .int))) ⟨none, by simp, .push, by simp [figL]⟩ ?_ ?_
  · rintro i d e h hi ⟨x, rfl, g, hc⟩
    refine ⟨trivial, ?_⟩
    have hi2 : i < 900 := by
      have := (List.getElem?_eq_some_iff.mp hi).1
      rw [intL_len] at this
      omega
    have hl := cell_lt hc
    have z : (List.map D.int (figL base i n)).length < sizeLine := small1000 (by simp [figL_len]; omega)
    simp [hc, hb.1, figL_len]
    refine ⟨small1000 (by omega), by omega, ?_, g.set_new (Nat.le_refl _), ?_⟩
    · rw [Int.ediv_ediv_of_nonneg (Int.pow_nonneg (by omega)), Int.pow_succ]
    · rw [figL_succ hb.1]
      simp [hl]
  · rintro e h ⟨x, rfl, g, hc⟩
    refine ⟨trivial, ?_⟩
    rw [intL_len] at hc
    simp [hc]
    refine q _ _ g.le ?_ (g.trans .push)
    simp [figs]
theorem intAt {xs : List Int} {i : Nat} {d : D} (h : (enumL 0 (xs.map D.int))[i]? = some d) : ∃ f, xs[i]? = some f ∧ d = .tup [.int (i : Nat), .int f] := by
  obtain ⟨x, h1, rfl⟩ := enumL_at h
  rw [List.getElem?_map] at h1
  cases e : xs[i]? with
  | none => rw [e] at h1; cases h1
  | some f =>
    rw [e] at h1
    cases h1
    exact ⟨f, rfl, rfl⟩
def mixR (F L : List (Option Int)) (f : Int) : List (Option Int) := L.take f.toNat ++ F.drop f.toNat
def nextA (many : Int) (R : Nat) (f : Int) (F : List (List (Option Int))) := if 0 < f then shutP many.toNat R (f - 1) else F
def nextZ (many : Int) (R : Nat) (f : Int) (L : List (List (Option Int))) := if f < many then shutP many.toNat R f else L
/-- the chain's pattern with some figures -/
def chainF (many : Int) (R : Nat) : Nat → List Int → List (List (Option Int)) → List (List (Option Int)) → List (List (Option Int))
  | _, [], _, _ => []
  | i, f :: fs, F, L => mixR (F.getD i []) (L.getD i []) f :: chainF many R (i + 1) fs (nextA many R f F) (nextZ many R f L)
theorem mix_good {many f : Int} {F L : List (Option Int)} (h1 : rowGood many F) (h2 : rowGood many L) (hf : 0 ≤ f ∧ f ≤ many) : rowGood many (mixR F L f) := by
  have l1 := h1.1
  have l2 := h2.1
  refine ⟨by unfold mixR; simp; omega, fun i o h => ?_⟩
  unfold mixR at h
  by_cases c : i < f.toNat
  · rw [List.getElem?_append_left (by simp; omega), List.getElem?_take_of_lt c] at h
    exact h2.2 i o h
  · rw [List.getElem?_append_right (by simp; omega), List.getElem?_drop] at h
    refine h1.2 i o ?_
    have : f.toNat + (i - (List.take f.toNat L).length) = i := by simp; omega
    rw [this] at h
    exact h
theorem shutP_good {many i : Int} {R : Nat} (hm : 0 ≤ many) (hi : 0 ≤ i ∧ i < many) : patGood many (shutP many.toNat R i) := fun r hr => by
  rw [(List.mem_replicate.mp hr).2]
  exact shut_good (by omega) hi
theorem shutP_len {n R : Nat} {i : Int} : (shutP n R i).length = R := by simp [shutP]
theorem nextA_len {many f : Int} {R : Nat} {F} (h : F.length = R) : (nextA many R f F).length = R := by
  unfold nextA
  split
  · exact shutP_len
  · exact h
theorem nextZ_len {many f : Int} {R : Nat} {F} (h : F.length = R) : (nextZ many R f F).length = R := by
  unfold nextZ
  split
  · exact shutP_len
  · exact h
theorem nextA_good {many f : Int} {R : Nat} {F} (hm : 0 ≤ many) (hf : 0 ≤ f ∧ f ≤ many) (h : patGood many F) : patGood many (nextA many R f F) := by
  unfold nextA
  split
  · exact shutP_good hm (by omega)
  · exact h
theorem nextZ_good {many f : Int} {R : Nat} {F} (hm : 0 ≤ many) (hf : 0 ≤ f ∧ f ≤ many) (h : patGood many F) : patGood many (nextZ many R f F) := by
  unfold nextZ
  split
  · exact shutP_good hm (by omega)
  · exact h
theorem atI_pat {p : List (List (Option Int))} {i : Nat} (h : i < p.length) : atI (p.map encR) (i : Nat) = some (encR (p.getD i [])) := by
  exact atI_nat (by simp [h]) (by omega)
theorem getD_good {many : Int} {p : List (List (Option Int))} {i : Nat} (h : i < p.length) (g : patGood many p) : rowGood many (p.getD i []) := by
  rw [List.getD_eq_getElem?_getD, List.getElem?_eq_getElem h]
  exact g _ (List.getElem_mem h)
theorem len_tup_nr {hs : Hs} {Q : D → Hs → Prop} {xs : List D} {R : Int} (h : (xs.length : Int) = R) : Wp (lenD [.tup xs] hs) Q = Q (.int R) hs := by
  subst h
  rfl
variable {hs : Hs} {Q : Except Ex D → Hs → Prop}
theorem raw_chain_aux {many n R : Int} {dF dL : D} {F L : List (List (Option Int))} (hF : dF = .tup (F.map encR)) (hL : dL = .tup (L.map encR)) (hRR : (F.length : Int) = R) (hm : 0 ≤ many ∧ many < 900) (h1 : patGood many F) (h2 : patGood many L) (hR : F.length ≤ 900) (hl : L.length = F.length) (hn : 0 ≤ n) (q : ∀ h, Gr [] hs h → Q (.ok (encP (chainF many F.length 0 (figs (many + 1) F.length n) F L))) h) : Wp (r_raw_chain [.int many, dF, dL, .int n] hs) Q := by
  unfold r_raw_chain b_raw_chain
  have hRR2 : ((F.map encR).length : Int) = R := by rw [List.length_map]; exact hRR
  simp [hF, hL, -wp_len_tup, len_tup_nr hRR2]
  refine figures_ok (by omega) (by omega) hn fun k h hk hc g => ?_
  have hT : R.toNat = F.length := by omega
  rw [hT] at hc
  simp [hc]
  generalize hG : figs (many + 1) F.length n = G at *
  have hGl : G.length = F.length := by rw [← hG, figs_len]
  have hGb : ∀ d ∈ G, 0 ≤ d ∧ d < many + 1 := by rw [← hG]; exact figs_bd (by omega)
  simp at hk
  refine wp_for (fun i e h => ∃ (rows A Z : List (List (Option Int))) (x6 x7 : Option D), e = [some (.int many), some (.tup (A.map encR)), some (.tup (Z.map encR)), some (.int n), some (.int R), some (.loc hs.length), x6, x7] ∧ rows ++ chainF many F.length i (G.drop i) A Z = chainF many F.length 0 G F L ∧ rows.length = i ∧ A.length = F.length ∧ Z.length = F.length ∧ patGood many A ∧ patGood many Z ∧ Gr [] hs h ∧ cell h hs.length = some (.lst (rows.map encR)) ∧ cell h k = some (.lst (G.map .int))) ⟨[], F, L, none, none, rfl, by simp, rfl, rfl, hl, h1, h2, Gr.push.trans g, ?_, hc⟩ ?_ ?_
  · exact g.get (by simp) (by simp)
  · rintro i d e h3 hi ⟨rows, A, Z, x6, x7, rfl, eq, hl3, la, lz, ga, gz, g3, c3, c4⟩
    obtain ⟨f, hf, rfl⟩ := intAt hi
    have hi2 : i < F.length := by
      have := (List.getElem?_eq_some_iff.mp hf).1
      omega
    have hf2 := hGb f (List.mem_of_getElem? hf)
    have hd : G.drop i = f :: G.drop (i + 1) := by
      obtain ⟨w, rfl⟩ := List.getElem?_eq_some_iff.mp hf
      exact List.drop_eq_getElem_cons w
    have ra := getD_good (p := A) (i := i) (by omega) ga
    have rz := getD_good (p := Z) (i := i) (by omega) gz
    have la2 := ra.1
    have lz2 := rz.1
    refine ⟨c4, ?_⟩
    have hl4 := cell_lt c3
    have aA := atI_pat (p := A) (i := i) (by omega)
    have aZ := atI_pat (p := Z) (i := i) (by omega)
    have eq2 : rows ++ [mixR (A.getD i []) (Z.getD i []) f] ++ chainF many F.length (i + 1) (G.drop (i + 1)) (nextA many F.length f A) (nextZ many F.length f Z) = chainF many F.length 0 G F L := by
      rw [← eq, hd]
      simp [chainF]
    generalize A.getD i [] = a at *
    generalize Z.getD i [] = z at *
    obtain ⟨h4, e4⟩ : ∃ h4, h4 = h3.set hs.length (.lst ((rows ++ [mixR a z f]).map encR)) := ⟨_, rfl⟩
    have g4 : Gr [] hs h4 := by rw [e4]; exact g3.set_new (Nat.le_refl _)
    have c5 : cell h4 hs.length = some (.lst ((rows ++ [mixR a z f]).map encR)) := by rw [e4]; simp [hl4]
    have c6 : cell h4 k = some (.lst (G.map .int)) := by
      rw [e4, cell_set_ne (by omega)]
      exact c4
    have row : D.tup (List.take f.toNat (z.map encO) ++ List.drop f.toNat (a.map encO)) = encR (mixR a z f) := by simp [encR, mixR]
    have lrow : (List.take f.toNat (z.map encO)).length + (List.drop f.toNat (a.map encO)).length ≤ sizeLine := Nat.le_of_lt (small1000 (by simp; omega))
    have push4 : h3.set hs.length (.lst (rows.map encR ++ [encR (mixR a z f)])) = h4 := by rw [e4]; simp
    simp [c3, aA, aZ]
    simp only [encR]
    simp [cut_to hf2.1, cut_from hf2.1]
    rw [row]
    have fin : ∀ h5 A2 Z2, Gr [] h4 h5 → A2 = nextA many F.length f A → Z2 = nextZ many F.length f Z → rows ++ [mixR a z f] ++ chainF many F.length (i + 1) (List.drop (i + 1) G) A2 Z2 = chainF many F.length 0 G F L ∧ (rows ++ [mixR a z f]).length = i + 1 ∧ A2.length = F.length ∧ Z2.length = F.length ∧ patGood many A2 ∧ patGood many Z2 ∧ Gr [] hs h5 ∧ cell h5 hs.length = some (.lst ((rows ++ [mixR a z f]).map encR)) ∧ cell h5 k = some (.lst (G.map .int)) := fun h5 A2 Z2 g5 eA eZ => by
      subst eA eZ
      exact ⟨eq2, by simp [hl3], nextA_len la, nextZ_len lz, nextA_good hm.1 (by omega) ga, nextZ_good hm.1 (by omega) gz, g4.trans g5, g5.get c5 (by simp), g5.get c6 (by simp)⟩
    refine ⟨Nat.le_of_lt (small1000 (by omega)), _, c3, small1000 (by simp; omega), ?_, ?_⟩
    · rw [push4]
      intro p
      refine raw_shut_ok (by omega) (by omega) fun h5 g5 => ?_
      simp
      refine ⟨fun p2 => ?_, fun p2 => ?_⟩
      · refine raw_shut_ok (by omega) (by omega) fun h6 g6 => ?_
        simp
        exact ⟨rows ++ [mixR a z f], nextA many F.length f A, nextZ many F.length f Z, by simp [nextA, nextZ, p, hT, p2, hT, encP, encR], fin h6 _ _ (g5.trans g6) rfl rfl⟩
      · exact ⟨rows ++ [mixR a z f], nextA many F.length f A, nextZ many F.length f Z, by simp [nextA, nextZ, p, hT, Int.not_lt.mpr p2, encP, encR], fin h5 _ _ g5 rfl rfl⟩
    · rw [push4]
      intro p
      refine ⟨fun p2 => ?_, fun p2 => ?_⟩
      · refine raw_shut_ok (by omega) (by omega) fun h6 g6 => ?_
        simp
        exact ⟨rows ++ [mixR a z f], nextA many F.length f A, nextZ many F.length f Z, by simp [nextA, nextZ, Int.not_lt.mpr p, p2, hT, encP, encR], fin h6 _ _ g6 rfl rfl⟩
      · exact ⟨rows ++ [mixR a z f], nextA many F.length f A, nextZ many F.length f Z, by simp [nextA, nextZ, Int.not_lt.mpr p, Int.not_lt.mpr p2, encP, encR], fin h4 _ _ .refl rfl rfl⟩
  · rintro e h3 ⟨rows, A, Z, x6, x7, rfl, eq, hl3, la, lz, ga, gz, g3, c3, c4⟩
    refine ⟨c4, ?_⟩
    rw [enumL_len, List.length_map] at eq
    simp [chainF] at eq
    simp [c3]
    rw [eq]
    exact q _ g3
theorem check_pattern_eq {many : Int} {d : D} {pat : List (List (Option Int))} {r : D} (hd : d = encP pat) (hm : 0 ≤ many ∧ many ≤ 1000) (good : patGood many pat) (hl : pat.length ≤ 30) (hr : r = .non ∨ r = .int pat.length) (q : ∀ h, Gr [] hs h → Q (.ok .non) h) : Wp (r_check_pattern [.int many, r, d] hs) Q := by
  subst hd
  exact check_pattern_ok hm good hl hr q
theorem len_enc {d : D} {pat : List (List (Option Int))} {R : Int} (hd : d = encP pat) (hR : (pat.length : Int) = R) {hs : Hs} {Q : D → Hs → Prop} : Wp (lenD [d] hs) Q = Q (.int R) hs := by
  subst hd
  exact len_tup_nr (by rw [List.length_map]; exact hR)
theorem chain_at_ok {many n : Int} {dF dL : D} {F L : List (List (Option Int))} (hF : dF = encP F) (hL : dL = encP L) (hm : 3 ≤ many ∧ many ≤ 5) (h1 : patGood many F) (h2 : patGood many L) (hR : F.length ≤ 30) (hl : L.length = F.length) (hn : 0 ≤ n ∧ n < (many + 1) ^ F.length) (q : ∀ h, Gr [] hs h → Q (.ok (encP (chainF many F.length 0 (figs (many + 1) F.length n) F L))) h) : Wp (r_chain_at [.int many, dF, dL, .int n] hs) Q := by
  obtain ⟨R, hRR⟩ : ∃ R : Int, (F.length : Int) = R := ⟨_, rfl⟩
  have hT : R.toNat = F.length := by omega
  unfold r_chain_at b_chain_at
  simp
  refine check_many_ok hm ?_
  simp
  refine check_pattern_eq hF (by omega) h1 (by omega) (.inl rfl) fun h3 g3 => ?_
  simp [len_enc hF hRR]
  refine check_pattern_eq hL (by omega) h2 (by omega) (.inr (by rw [← hRR, hl])) fun h4 g4 => ?_
  simp [len_enc hF hRR]
  refine links_ok (by omega) (by omega) ?_
  simp [hT, is_within_ok Kn.int, within]
  refine ⟨fun p => absurd p (by omega), fun _ _ => ?_⟩
  refine raw_chain_aux hF hL hRR (by omega) h1 h2 (by omega) hl hn.1 fun h5 g5 => ?_
  simp
  exact q _ ((g3.trans g4).trans g5)
end
end DL
set_option Elab.async false
set_option linter.all false
set_option maxRecDepth 100000
set_option maxHeartbeats 4000000
namespace DL
open PySem PySem.Spec PyProof.Rows L2

/-! ## chains: neighbours -/
theorem shutR_len {n : Nat} {i : Int} : (shutR n i).length = n := by simp [shutR]
theorem chainF_zeros {many : Int} {R n : Nat} {me : Int} (hm : 0 < many) : ∀ {k i : Nat} {Z : List (List (Option Int))}, i + k ≤ R → chainF many R i (List.replicate k 0) (shutP n R me) Z = List.replicate k (shutR n me)
  | 0, _, _, _ => rfl
  | k + 1, i, Z, h => by
    rw [List.replicate_succ]
    show mixR _ _ _ :: chainF many R (i + 1) (List.replicate k 0) _ _ = _
    have e : nextA many R 0 (shutP n R me) = shutP n R me := rfl
    rw [e, chainF_zeros hm (by omega), List.replicate_succ]
    congr 1
    unfold shutP
    rw [List.getD_eq_getElem?_getD (l := List.replicate R _), List.getElem?_replicate, if_pos (by omega)]
    simp [mixR]
theorem chainF_tops {many : Int} {R n : Nat} {me : Int} (hn : (n : Int) = many) (hm : 0 < many) : ∀ {k i : Nat} {A : List (List (Option Int))}, i + k ≤ R → (∀ r ∈ A, r.length = n) → chainF many R i (List.replicate k many) A (shutP n R me) = List.replicate k (shutR n me)
  | 0, _, _, _, _ => rfl
  | k + 1, i, A, h, hA => by
    rw [List.replicate_succ]
    show mixR _ _ _ :: chainF many R (i + 1) (List.replicate k many) _ _ = _
    have e : nextZ many R many (shutP n R me) = shutP n R me := by simp [nextZ]
    rw [e, chainF_tops hn hm (by omega), List.replicate_succ]
    · congr 1
      unfold shutP
      rw [List.getD_eq_getElem?_getD (l := List.replicate R _), List.getElem?_replicate, if_pos (by omega)]
      have l1 : (A.getD i []).length ≤ n := by
        rw [List.getD_eq_getElem?_getD]
        cases q : A[i]? with
        | none => simp
        | some r => exact Nat.le_of_eq (hA r (List.mem_of_getElem? q))
      have nm : many.toNat = n := by omega
      simp only [mixR, nm]
      rw [List.drop_eq_nil_of_le l1]
      simp [List.take_of_length_le (Nat.le_of_eq (shutR_len (n := n) (i := me)))]
    · intro r hr
      unfold nextA at hr
      rw [if_pos hm] at hr
      rw [(List.mem_replicate.mp hr).2, shutR_len]
      omega
/-- two links that follow one another -/
theorem neigh {many : Int} {R : Nat} (hm : 0 < many) {f : Int} (hf : 0 < f ∧ f ≤ many) {k : Nat} : ∀ {A : List Int} {i : Nat} {F L : List (List (Option Int))}, i + A.length + 1 + k = R → F.length = R → L.length = R → patGood many F → patGood many L → (∀ d ∈ A, 0 ≤ d ∧ d ≤ many) → ∃ P a z, chainF many R i (A ++ (f - 1) :: List.replicate k many) F L = P ++ mixR a z (f - 1) :: List.replicate k (shutR many.toNat (f - 1)) ∧ chainF many R i (A ++ f :: List.replicate k 0) F L = P ++ mixR a z f :: List.replicate k (shutR many.toNat (f - 1)) ∧ P.length = A.length ∧ rowGood many a ∧ rowGood many z ∧ patGood many P ∧ (A = [] → a = F.getD i [] ∧ z = L.getD i [])
  | [], i, F, L, h, hF, hL, gF, gL, _ => by
    refine ⟨[], F.getD i [], L.getD i [], ?_, ?_, rfl, getD_good (by omega) gF, getD_good (by omega) gL, (fun r hr => nomatch hr), fun _ => ⟨rfl, rfl⟩⟩
    · show mixR _ _ _ :: chainF many R (i + 1) (List.replicate k many) _ _ = _
      have e : nextZ many R (f - 1) L = shutP many.toNat R (f - 1) := by unfold nextZ; rw [if_pos (by omega)]
      rw [e, chainF_tops (by omega) hm (by simp at h; omega)]
      · rfl
      · intro r hr
        have := nextA_good (R := R) (f := f - 1) (by omega) (by omega) gF r hr
        have := this.1
        omega
    · show mixR _ _ _ :: chainF many R (i + 1) (List.replicate k 0) _ _ = _
      have e : nextA many R f F = shutP many.toNat R (f - 1) := by unfold nextA; rw [if_pos (by omega)]
      rw [e, chainF_zeros hm (by simp at h; omega)]
      rfl
  | d :: A, i, F, L, h, hF, hL, gF, gL, hA => by
    have hd := hA d List.mem_cons_self
    simp at h
    obtain ⟨P, a, z, e1, e2, e3, g1, g2, g3, _⟩ := neigh hm hf (k := k) (A := A) (i := i + 1) (F := nextA many R d F) (L := nextZ many R d L) (by omega) (nextA_len hF) (nextZ_len hL) (nextA_good (by omega) hd gF) (nextZ_good (by omega) hd gL) fun x hx => hA x (List.mem_cons_of_mem _ hx)
    refine ⟨mixR (F.getD i []) (L.getD i []) d :: P, a, z, ?_, ?_, by simp [e3], g1, g2, ?_, fun q => nomatch q⟩
    · show mixR _ _ _ :: chainF many R (i + 1) (A ++ (f - 1) :: List.replicate k many) _ _ = _
      rw [e1]
      rfl
    · show mixR _ _ _ :: chainF many R (i + 1) (A ++ f :: List.replicate k 0) _ _ = _
      rw [e2]
      rfl
    · intro r hr
      rcases List.mem_cons.mp hr with rfl | hr
      · exact mix_good (getD_good (by omega) gF) (getD_good (by omega) gL) hd
      · exact g3 r hr
/-- a number above 0: its figures, and those of the one ahead of it -/
theorem figs_split {b n : Int} {R : Nat} (hb : 1 < b) (h0 : 0 < n) (h1 : n < b ^ R) : ∃ A f k, figs b R n = A ++ f :: List.replicate k 0 ∧ figs b R (n - 1) = A ++ (f - 1) :: List.replicate k (b - 1) ∧ 0 < f ∧ f < b ∧ A.length + 1 + k = R ∧ ∀ d ∈ A, 0 ≤ d ∧ d < b := by
  have split : ∀ m : List Int, val b m.reverse ≠ 0 → ∃ A f k, m.reverse = A ++ f :: List.replicate k 0 ∧ f ≠ 0 := by
    intro m
    induction m with
    | nil => intro h; exact absurd rfl h
    | cons d m ih =>
      rw [List.reverse_cons]
      intro h
      by_cases hd : d = 0
      · subst hd
        rw [val_snoc] at h
        obtain ⟨A, f, k, e, hf⟩ := ih (fun q => h (by rw [q]; simp))
        exact ⟨A, f, k + 1, by rw [e]; simp [List.replicate_succ'], hf⟩
      · exact ⟨m.reverse, d, 0, by simp, hd⟩
  have hv := val_figs (by omega : 0 < b) (R := R) (n := n) (by omega) h1
  have bd := figs_bd (by omega : 0 < b) (R := R) (n := n)
  have ln := figs_len (b := b) (R := R) (n := n)
  obtain ⟨A, f, k, e, hf⟩ := split (figs b R n).reverse (by rw [List.reverse_reverse]; omega)
  rw [List.reverse_reverse] at e
  rw [e] at bd ln hv
  have bf := bd f (by simp)
  have bA : ∀ d ∈ A, 0 ≤ d ∧ d < b := fun d h => bd d (by simp [h])
  refine ⟨A, f, k, e, ?_, by omega, bf.2, by simpa [Nat.add_assoc, Nat.add_comm, Nat.add_left_comm] using ln, bA⟩
  have e2 := val_pred (b := b) (A := A) (f := f) (k := k)
  rw [hv] at e2
  have := figs_val (by omega : 0 < b) (A ++ (f - 1) :: List.replicate k (b - 1)) (fun d h => by
    rcases List.mem_append.mp h with h | h
    · exact bA d h
    · rcases List.mem_cons.mp h with rfl | h
      · omega
      · rw [(List.mem_replicate.mp h).2]; omega)
  rw [e2] at this
  rw [← this]
  congr 1
  simp
  simp at ln
  omega
theorem fm_const {X : D} {n : Nat} : (intL 0 n).filterMap (fun _ => some X) = List.replicate n X := by
  have e : (fun _ : D => some X) = some ∘ (fun _ : D => X) := rfl
  rw [e, List.filterMap_eq_map, List.map_const', intL_len]
section
variable {hs : Hs} {Q : D → Hs → Prop}
theorem ix_enc {d : D} {p : List (List (Option Int))} {r : Nat} (hd : d = encP p) (hr : r < p.length) : Wp (ixD d (.int (r : Nat)) hs) Q = Q (encR (p.getD r [])) hs := by
  subst hd
  unfold encP
  rw [wp_ix_tup, atI_pat hr]
  simp
theorem ix_row {p : List (Option Int)} {r : Nat} (hr : r < p.length) : Wp (ixD (encR p) (.int (r : Nat)) hs) Q = Q (encO (p.getD r none)) hs := by
  unfold encR
  have e : atI (p.map encO) (r : Nat) = some (encO (p.getD r none)) := atI_nat (by simp [hr]) (by omega)
  rw [wp_ix_tup, e]
  simp
end
end DL
set_option Elab.async false
set_option linter.all false
set_option maxRecDepth 100000
set_option maxHeartbeats 4000000
namespace DL
open PySem PySem.Spec PyProof.Rows L2

/-! ## two clauses, sorted(set(..)): what holds behind them -/
section
variable {hs : Hs} {e : Ev}
@[simp] theorem wp_sortSetM {fa : Ev → M D} {Q : Except Ex D → Hs → Prop} : Wp (sortSetM fa e hs) Q = Wp (fa e hs) (onOk (fun d => M.lift (sortSetD d)) Q) := by
  unfold sortSetM; rw [wp_bind]
@[simp] theorem wp_sortSet_loc {n : Nat} {Q : D → Hs → Prop} : Wp (sortSetD (.loc n) hs) Q = (∃ xs, cell hs n = some (.lst xs) ∧ ∃ ks, intsD xs = some ks ∧ ks.length < 64 ∧ Q (.loc hs.length) (hs ++ [.lst ((usort ks).map .int)])) := by
  unfold sortSetD listOf newL
  simp only [cell_eq]
  cases h : cell hs n with
  | none => simp
  | some o =>
    cases o <;> simp
    rename_i xs
    cases h2 : intsD xs with
    | none => simp
    | some ks =>
      by_cases c : ks.length < 64 <;> simp [c]
@[simp] theorem wp_comp2M {own vs1 : List Nat} {t t1 : Tg} {fi fi1 : Ev → M Src} {ft ft1 : Ev → M Bool} {fe : Ev → M D} {Q : Except Ex D → Hs → Prop} : Wp (comp2M own vs1 t fi ft t1 fi1 ft1 fe e hs) Q = Wp (fi e hs) (onOk (fun src => M.bind (M.lift (comp2S src.ok (turn2 t ft fi1 t1 ft1 fe vs1 (wipeE e own)) src.items [])) fun xs => M.lift (newL xs)) Q) := by
  unfold comp2M; rw [wp_bind]
theorem wp_comp2_at {ok : Hs → Prop} {turn : D → List D → P (List D)} {items : List D} {Q : List D → Hs → Prop} (I : Nat → List D → Hs → Prop)
    (step : ∀ i d acc hs, items[i]? = some d → I i acc hs → ok hs ∧ Wp (turn d acc hs) (I (i + 1))) (fin : ∀ acc hs, I items.length acc hs → ok hs ∧ Q acc hs) :
    ∀ (k i : Nat) (acc : List D) (hs : Hs), items.length - i = k → i ≤ items.length → I i acc hs → Wp (comp2S ok turn (items.drop i) acc hs) Q
  | 0, i, acc, hs, hk, hi, h => by
    have : i = items.length := by omega
    subst this
    rw [List.drop_length]
    obtain ⟨h1, h2⟩ := fin acc hs h
    simp only [comp2S, if_pos h1]
    exact h2
  | k + 1, i, acc, hs, hk, hi, h => by
    have hlt : i < items.length := by omega
    rw [List.drop_eq_getElem_cons hlt]
    obtain ⟨h1, h2⟩ := step i items[i] acc hs (by simp [hlt]) h
    simp only [comp2S, if_pos h1]
    obtain ⟨acc2, h', e1, q⟩ := h2.get
    rw [e1]
    exact wp_comp2_at I step fin k (i + 1) acc2 h' (by omega) (by omega) q
/-- THE RULE for a comprehension of two clauses -/
theorem wp_comp2 {ok : Hs → Prop} {turn : D → List D → P (List D)} {items : List D} {Q : List D → Hs → Prop} (I : Nat → List D → Hs → Prop) (h0 : I 0 [] hs)
    (step : ∀ i d acc hs, items[i]? = some d → I i acc hs → ok hs ∧ Wp (turn d acc hs) (I (i + 1))) (fin : ∀ acc hs, I items.length acc hs → ok hs ∧ Q acc hs) : Wp (comp2S ok turn items [] hs) Q := by
  have q := wp_comp2_at I step fin _ 0 [] hs rfl (Nat.zero_le _) h0
  simpa using q
/-- a comprehension that goes on from what is gathered, its turns tell one thing each -/
theorem wp_comp_from {ok : Hs → Prop} {turn : D → M (Option D)} {items acc0 : List D} {hs : Hs} {Q : List D → Hs → Prop} (S : List Nat) (g : D → Option D) (hok : ∀ h, Gr S hs h → ok h) (hl : acc0.length + items.length ≤ 1000)
    (step : ∀ d h, d ∈ items → Gr S hs h → Wp (turn d h) (okq fun o h' => o = g d ∧ Gr S h h')) (fin : ∀ h, Gr S hs h → Q (acc0 ++ items.filterMap g) h) : Wp (compS ok turn items acc0 hs) Q := by
  have q := wp_comp_at (ok := ok) (turn := turn) (items := items) (Q := Q) (fun i acc h => Gr S hs h ∧ acc = acc0 ++ (items.take i).filterMap g) ?_ ?_ _ 0 acc0 hs rfl (Nat.zero_le _) ⟨.refl, by simp⟩
  · simpa using q
  · rintro i d acc h hi ⟨gr, rfl⟩
    refine ⟨hok h gr, (step d h (List.mem_of_getElem? hi) gr).mono fun r h' q => ?_⟩
    cases r with
    | error e => exact q.elim
    | ok o =>
      obtain ⟨rfl, g2⟩ : o = g d ∧ Gr S h h' := q
      have hlt := (List.getElem?_eq_some_iff.mp hi).1
      have e : (items.take (i + 1)).filterMap g = (items.take i).filterMap g ++ (match g d with | some y => [y] | none => []) := by
        rw [List.take_succ, hi, List.filterMap_append]
        simp only [Option.toList]
        cases eg : g d <;> simp [eg]
      simp only [okq]
      cases eg : g d with
      | none => simp only [eg] at e; exact ⟨gr.trans g2, by rw [e]; simp⟩
      | some y =>
        simp only [eg] at e
        refine ⟨?_, gr.trans g2, by rw [e]; simp⟩
        have := List.length_filterMap_le g (items.take i)
        have h2 := List.length_take_le i items
        exact small1000 (by simp; omega)
  · rintro acc h ⟨gr, rfl⟩
    exact ⟨hok h gr, by rw [List.take_length]; exact fin h gr⟩
@[simp] theorem wp_turn2 {i : Nat} {ft : Ev → M Bool} {fi1 : Ev → M Src} {t1 : Tg} {ft1 : Ev → M Bool} {fe : Ev → M D} {vs1 : List Nat} {ew : Ev} {d : D} {acc : List D} {Q : List D → Hs → Prop} :
    Wp (turn2 (.one i) ft fi1 t1 ft1 fe vs1 ew d acc hs) Q = Wp (ft (ew.set i (some d)) hs) (okq fun b h1 => if b = true then Wp (fi1 (ew.set i (some d)) h1) (okq fun src h2 => Wp (compS src.ok (turnM t1 ft1 fe (wipeE (ew.set i (some d)) vs1)) src.items acc h2) Q) else Q acc h1) := by
  unfold turn2
  simp only [asg]
  cases ft (ew.set i (some d)) hs with
  | none => rfl
  | some r =>
    obtain ⟨r, h1⟩ := r
    cases r with
    | error x => rfl
    | ok b =>
      cases b with
      | false => simp
      | true =>
        simp
        cases fi1 (ew.set i (some d)) h1 with
        | none => rfl
        | some r =>
          obtain ⟨r, h2⟩ := r
          cases r <;> rfl
end
end DL
set_option Elab.async false
set_option linter.all false
set_option maxRecDepth 100000
set_option maxHeartbeats 4000000
namespace DL
open PySem PySem.Spec PyProof.Rows L2

/-! ## the end: the error classes that the top has made -/
/-- what is read of an error class, at C -/
structure ErrG (K : PySem.W.Frag) (x : Str) (C S : Addr) : Prop where
  a : PySem.W.nsIn K mainGlobals x = some (some (.ref C))
  s : PySem.W.nsIn K mainGlobals "SilentError" = some (some (.ref S))
  T : L2.OexC K C
  cd : ∃ cd : ClassData, PySem.W.clsIn K C = some cd ∧ cd.name = x ∧ cd.mro = [.ref C, .ref S, .type "ValueError", .type "Exception", .type "BaseException", .type "object"]
  sI : (PySem.W.clsIn K S).isSome = true
  sB : PySem.W.subIn K (.ref S) (.type "BaseException") = some true
  sT : PySem.W.typeIn K (.ref S) = some (.type "type")
  ne : S ≠ C
  nx : x ≠ "SilentError"
  xf : L2.XfC K C
  ec : L2.ExcC K C
section
variable {P : Program} {K : PySem.W.Frag} {x nm q : Str} {C S N : Addr} {bs bm : List Value} {sn : List Str} {sub : List Value} {ab : Bool} {col : Option Bool} {dd : Option Addr} {k0 k1 k2 k3 k5 : Option Value}
theorem errG_mk (a : PySem.W.nsIn K mainGlobals x = some (some (.ref C))) (s : PySem.W.nsIn K mainGlobals "SilentError" = some (some (.ref S)))
    (l : K.lookup C = some (excClassObj nm q C N bs bm true sn sub ab col dd k0 k1 k2 k3 k5 "ValueError.__new__")) (e1 : bm = [.ref S, .type "ValueError", .type "Exception", .type "BaseException", .type "object"]) (e2 : nm = x)
    (f1 : PySem.W.findIn K (.ref C) "__setattr__" = some (some (.builtin "object.__setattr__"))) (f2 : PySem.W.subIn K (.ref C) (.type "BaseException") = some true) (f3 : PySem.W.typeIn K (.ref C) = some (.type "type")) (f4 : PySem.W.keepIn K (.ref C) = true)
    (g1 : PySem.W.isClsIn K S = true) (g2 : PySem.W.subIn K (.ref S) (.type "BaseException") = some true) (g3 : PySem.W.typeIn K (.ref S) = some (.type "type")) (ne : S ≠ C) (nx : x ≠ "SilentError")
    (h1 : PySem.W.findIn K (.ref C) "__getattribute__" = some (some (.builtin "BaseException.__getattribute__"))) (h2 : PySem.W.findIn K (.ref C) "__getattr__" = some none) (h3 : PySem.W.hasDictIn K C = true)
    (i1 : PySem.W.findIn K (.ref C) "__class__" = some (some (.builtin "object.__class__"))) (i2 : PySem.W.specialIn K (.builtin "object.__class__") "__get__" = some (some (.builtin "getset_descriptor.__get__"))) (i3 : PySem.W.takesIn K (.builtin "object.__class__") = some true)
    (i4 : PySem.W.mroIn K C (.type "object") = some true) : ErrG K x C S where
  a := a
  s := s
  T := ⟨⟨_, _, _, _, _, _, _, _, _, _, _, _, _, _, _, l, by subst e1; rfl⟩, f1, f2, f3, f4⟩
  cd := ⟨_, by unfold PySem.W.clsIn; rw [l], e2, by subst e1; rfl⟩
  sI := g1
  sB := g2
  sT := g3
  ne := ne
  nx := nx
  xf := ⟨h1, h2, f2, h3⟩
  ec := ⟨h1, h2, f2, h3, i1, i2, i3, i4⟩
theorem ErrG.m {mg : Str → Option Value} {h : Heap} (E : ErrG K x C S) (X : K.In h) (G : h.Ns mainGlobals mg) : ErrM K mg x C := by
  obtain ⟨cd, e1, e2, e3⟩ := E.cd
  exact ⟨S, cd, e1, e2, e3, PySem.W.mg_of X G E.s, E.sI, E.sB, E.sT, E.T.tyC, E.ne, E.nx, E.xf, E.ec⟩
/-- what is read of its __init__ -/
structure ErrI (P : Program) (K : PySem.W.Frag) (x : Str) (fld : Option Str) : Prop where
  ex : ∃ C S, ErrG K x C S ∧ ErrC P K C fld
variable {fI cc cda : Addr} {qual txt file : Str} {tf : Tok} {st : Stmt} {dV kV doc pm ct oc ccl cl : Value} {an od cdd cld : Option Addr} {osl ccs csl : Array (Option Value)} {vs : Array Value} {ar : Arg}
      {p0 p1 p2 p3 p4 p5 q1 q2 q3 q4 : Pos} {j : Nat}
theorem errI_mk0 (E : ErrG K x C S) (iC : PySem.W.findIn K (.ref C) "__init__" = some (some (.ref fI))) (tI : PySem.W.typeIn K (.ref fI) = some (.type "function"))
    (lk : K.lookup fI = some ⟨oc, od, .func (PySem.W.ksFn "__init__" qual (defArgs st) (defBody st) (defScope st) dV kV doc pm an (.ref cda) ct cc), osl⟩) (hcd : PySem.W.codeIn K (.ref cda) qual = true)
    (lcc : K.lookup cc = some ⟨cl, cld, .cell (some (.ref C)), csl⟩) (lcd : K.lookup cda = some ⟨ccl, cdd, .fields vs, ccs⟩) (hvs : vs[2]? = some (.str file tf)) (hfile : ((P.main.file : Str) == file) = true)
    (hsub : PySem.W.mroIn K C (.ref C) = some true) (hsup : PySem.W.ks_superIn K C C "__init__" = some (some (.builtin "ValueError.__init__"))) (hVE : PySem.W.subIn K (.ref C) (.type "ValueError") = some true)
    (hsn : PySem.W.nsIn K mainGlobals "super" = some none) (hop : PySem.W.nsIn K cStatics "thirdparty.any" = some none)
    (hb : defBody st = .Expr (.Call (.Attribute (.Call (.Name "super" p0) [] [] p1) "__init__" p2) [.Constant (.str txt) j p3] [] p4) p5 :: []) (hline : (p2.endLine == p4.line) = true)
    (hbi : ∀ s u v, BindsTo s (PySem.W.ksFn "__init__" qual (defArgs st) (defBody st) (defScope st) dV kV doc pm an (.ref cda) ct cc) ⟨.ref u :: moreA none v, []⟩ (("self", .ref u) :: moreB none v))
    (hp : ((defArgs st).posonlyargs ++ (defArgs st).args).head? = some ar) (har : ar.arg = "self")
    (s1 : (defScope st).names.lookup ("super" : Str) = some .globalImplicit) (s2 : (defScope st).names.lookup ("__class__" : Str) = some .free) (s3 : (defScope st).names.lookup ("self" : Str) = some .local)
    (s5 : ∀ x ∈ (defScope st).names, x.2 ≠ .cell) (s6 : (defScope st).isCoroutine = false) (s7 : (defScope st).isGenerator = false) (s8 : (defScope st).kind = .function) (s9 : (P.main.scope.names.lookup ("super" : Str)).isSome = false) : ErrI P K x none :=
  ⟨C, S, E, E.T, fI, cc, cda, qual, txt, file, tf, defArgs st, defBody st, defScope st, dV, kV, doc, pm, ct, oc, ccl, cl, an, od, cdd, cld, osl, ccs, csl, vs, E.cd.choose, ar, p0, p1, p2, p3, p4, p5, j, [],
    iC, tI, lk, hcd, lcc, lcd, hvs, hfile, hsub, hsup, hVE, hsn, hop, hb, hline, (fun h => by cases h), hbi, hp, har, s1, s2, s3, (fun _ h => by cases h), s5, s6, s7, s8, s9⟩
theorem errI_mk1 {f : Str} (E : ErrG K x C S) (iC : PySem.W.findIn K (.ref C) "__init__" = some (some (.ref fI))) (tI : PySem.W.typeIn K (.ref fI) = some (.type "function"))
    (lk : K.lookup fI = some ⟨oc, od, .func (PySem.W.ksFn "__init__" qual (defArgs st) (defBody st) (defScope st) dV kV doc pm an (.ref cda) ct cc), osl⟩) (hcd : PySem.W.codeIn K (.ref cda) qual = true)
    (lcc : K.lookup cc = some ⟨cl, cld, .cell (some (.ref C)), csl⟩) (lcd : K.lookup cda = some ⟨ccl, cdd, .fields vs, ccs⟩) (hvs : vs[2]? = some (.str file tf)) (hfile : ((P.main.file : Str) == file) = true)
    (hsub : PySem.W.mroIn K C (.ref C) = some true) (hsup : PySem.W.ks_superIn K C C "__init__" = some (some (.builtin "ValueError.__init__"))) (hVE : PySem.W.subIn K (.ref C) (.type "ValueError") = some true)
    (hsn : PySem.W.nsIn K mainGlobals "super" = some none) (hop : PySem.W.nsIn K cStatics "thirdparty.any" = some none)
    (hb : defBody st = .Expr (.Call (.Attribute (.Call (.Name "super" p0) [] [] p1) "__init__" p2) [.Constant (.str txt) j p3] [] p4) p5 :: .Assign [.Attribute (.Name "self" q1) f q2] (.Name f q3) q4 :: []) (hline : (p2.endLine == p4.line) = true)
    (hbi : ∀ s u v, BindsTo s (PySem.W.ksFn "__init__" qual (defArgs st) (defBody st) (defScope st) dV kV doc pm an (.ref cda) ct cc) ⟨.ref u :: moreA (some f) v, []⟩ (("self", .ref u) :: moreB (some f) v))
    (hp : ((defArgs st).posonlyargs ++ (defArgs st).args).head? = some ar) (har : ar.arg = "self")
    (s1 : (defScope st).names.lookup ("super" : Str) = some .globalImplicit) (s2 : (defScope st).names.lookup ("__class__" : Str) = some .free) (s3 : (defScope st).names.lookup ("self" : Str) = some .local)
    (t1 : (defScope st).names.lookup f = some .local) (t2 : f ≠ "self") (t3 : (f == ("__debug__" : Str)) = false) (t4 : PySem.W.findIn K (.ref C) f = some none)
    (s5 : ∀ x ∈ (defScope st).names, x.2 ≠ .cell) (s6 : (defScope st).isCoroutine = false) (s7 : (defScope st).isGenerator = false) (s8 : (defScope st).kind = .function) (s9 : (P.main.scope.names.lookup ("super" : Str)).isSome = false) : ErrI P K x (some f) :=
  ⟨C, S, E, E.T, fI, cc, cda, qual, txt, file, tf, defArgs st, defBody st, defScope st, dV, kV, doc, pm, ct, oc, ccl, cl, an, od, cdd, cld, osl, ccs, csl, vs, E.cd.choose, ar, p0, p1, p2, p3, p4, p5, j, [(q1, q2, q3, q4)],
    iC, tI, lk, hcd, lcc, lcd, hvs, hfile, hsub, hsup, hVE, hsn, hop, hb, hline, (fun _ => rfl), hbi, hp, har, s1, s2, s3, (fun g h => by cases h; exact ⟨t1, t2, t3, t4⟩), s5, s6, s7, s8, s9⟩
theorem ErrI.at_ {w : World} {mg : Str → Option Value} {base h : Heap} {k : Nat} {fld : Option Str} (E : ErrI P K x fld) (X : K.In h) (G : h.Ns mainGlobals mg) (hk : 1 ≤ k := by decide) : GAt P w K mg base k x (.err fld) := by
  obtain ⟨C, S, E1, E2⟩ := E.ex
  exact ⟨hk, C, PySem.W.mg_of X G E1.a, E2, E1.m X G⟩
theorem base_at {w : World} {mg : Str → Option Value} {base h : Heap} {k : Nat} (X : K.In h) (G : h.Ns mainGlobals mg) (s : PySem.W.nsIn K mainGlobals "SilentError" = some (some (.ref S))) : GAt P w K mg base k "SilentError" .base :=
  ⟨rfl, S, PySem.W.mg_of X G s⟩
end
end DL
set_option Elab.async false
set_option linter.all false
set_option maxRecDepth 100000
set_option maxHeartbeats 4000000
namespace DL.Deck
open PySem PySem.Spec PyProof.Rows L2 DL TL

/-! ## the deck, and texts: drawn patterns as texts, and what is read of them -/
noncomputable def b__law_deck : Ev → S := (seqS (asgS (.one 1) (fun _ => M.pure (.int 1)))
  (seqS (loopS (.one 2) (seqM (varD 0))
  (seqS (asgS (.one 1) (op2 (binD .Mod) (callM intD (consM (op2 (binD .Add) (op2 (binD .Mult) (varD 1) (fun _ => M.pure (.int 1000003))) (varD 2)) (fun _ => M.pure []))) (fun _ => M.pure (.int 998244353))))
  nextS))
  (seqS (retS (lstM (consM (callM listD (consM (varD 0) (fun _ => M.pure []))) (consM (fun _ => M.pure (.int 0)) (consM (fun _ => M.pure (.int 0)) (consM (fun _ => M.pure (.int 0)) (consM (varD 1) (fun _ => M.pure []))))))))
  nextS)))
noncomputable def r__law_deck : List D → M D := runB 3 b__law_deck
noncomputable def b__law_mixed : Ev → S := (seqS (asgS (.one 2) (op2 (binD .Mod) (callM intD (consM (op2 (binD .Mult) (callM intD (consM (op2 (binD .Add) (op2 (binD .Add) (varD 0) (op2 (binD .Mult) (fun _ => M.pure (.int 7919)) (varD 1))) (fun _ => M.pure (.int 1))) (fun _ => M.pure []))) (fun _ => M.pure (.int 48271))) (fun _ => M.pure []))) (fun _ => M.pure (.int 2147483647))))
  (seqS (asgS (.one 2) (op2 (binD .Mod) (callM intD (consM (op2 (binD .Mult) (varD 2) (op2 (binD .Add) (op2 (binD .FloorDiv) (varD 2) (fun _ => M.pure (.int 1009))) (fun _ => M.pure (.int 69621)))) (fun _ => M.pure []))) (fun _ => M.pure (.int 2147483647))))
  (seqS (asgS (.one 2) (op2 (binD .Mod) (callM intD (consM (op2 (binD .Mult) (varD 2) (op2 (binD .Add) (op2 (binD .Add) (op2 (binD .FloorDiv) (varD 2) (fun _ => M.pure (.int 2003))) (fun _ => M.pure (.int 40692))) (varD 1))) (fun _ => M.pure []))) (fun _ => M.pure (.int 2147483399))))
  (seqS (retS (op2 (binD .FloorDiv) (varD 2) (fun _ => M.pure (.int 16))))
  nextS))))
noncomputable def r__law_mixed : List D → M D := runB 3 b__law_mixed
noncomputable def b__law_draw : Ev → S := (seqS (setS (op2 (binD .Add) (op2 ixD (varD 0) (fun _ => M.pure (.int 3))) (fun _ => M.pure (.int 1))) (varD 0) (fun _ => M.pure (.int 3)))
  (seqS (ifS (andM (asTest (op2 (cmpD .Eq) (op2 ixD (varD 0) (fun _ => M.pure (.int 2))) (fun _ => M.pure (.int 0)))) (asTest (op2 (cmpD .Lt) (op2 ixD (varD 0) (fun _ => M.pure (.int 1))) (callM lenD (consM (op2 ixD (varD 0) (fun _ => M.pure (.int 0))) (fun _ => M.pure []))))))
  (seqS (asgS (.one 2) (op2 ixD (op2 ixD (varD 0) (fun _ => M.pure (.int 0))) (op2 ixD (varD 0) (fun _ => M.pure (.int 1)))))
  (seqS (setS (op2 (binD .Add) (op2 ixD (varD 0) (fun _ => M.pure (.int 1))) (fun _ => M.pure (.int 1))) (varD 0) (fun _ => M.pure (.int 1)))
  (seqS (ifS (asTest (op3 (cmpD .Lt) (cmpD .Lt) (negV (op2 (binD .Pow) (fun _ => M.pure (.int 10)) (fun _ => M.pure (.int 18)))) (varD 2) (op2 (binD .Pow) (fun _ => M.pure (.int 10)) (fun _ => M.pure (.int 18)))))
  (seqS (retS (op2 (binD .Mod) (callM intD (consM (callF 2 r__law_mixed (consM (varD 2) (consM (op2 ixD (varD 0) (fun _ => M.pure (.int 3))) (fun _ => M.pure [])))) (fun _ => M.pure []))) (varD 1)))
  nextS)
  nextS)
  (seqS (setS (callM absD (consM (varD 2) (fun _ => M.pure []))) (varD 0) (fun _ => M.pure (.int 2)))
  nextS))))
  nextS)
  (seqS (ifS (asTest (op2 (cmpD .Gt) (op2 ixD (varD 0) (fun _ => M.pure (.int 2))) (fun _ => M.pure (.int 0))))
  (seqS (asgS (.one 3) (op2 (binD .Mod) (callM intD (consM (op2 ixD (varD 0) (fun _ => M.pure (.int 2))) (fun _ => M.pure []))) (varD 1)))
  (seqS (setS (op2 (binD .FloorDiv) (op2 ixD (varD 0) (fun _ => M.pure (.int 2))) (varD 1)) (varD 0) (fun _ => M.pure (.int 2)))
  (seqS (retS (varD 3))
  nextS)))
  nextS)
  (seqS (retS (op2 (binD .Mod) (callM intD (consM (callF 2 r__law_mixed (consM (op2 ixD (varD 0) (fun _ => M.pure (.int 4))) (consM (op2 ixD (varD 0) (fun _ => M.pure (.int 3))) (fun _ => M.pure [])))) (fun _ => M.pure []))) (varD 1)))
  nextS))))
noncomputable def r__law_draw : List D → M D := runB 4 b__law_draw
noncomputable def b__law_pattern : Ev → S := (seqS (asgS (.one 2) (ifV (asTest (op2 (cmpD .Eq) (callF 2 r__law_draw (consM (varD 0) (consM (fun _ => M.pure (.int 6)) (fun _ => M.pure [])))) (fun _ => M.pure (.int 0)))) (callF 2 r__law_draw (consM (varD 0) (consM (fun _ => M.pure (.int 31)) (fun _ => M.pure [])))) (callF 2 r__law_draw (consM (varD 0) (consM (fun _ => M.pure (.int 5)) (fun _ => M.pure []))))))
  (seqS (asgS (.one 3) (lstM (fun _ => M.pure [])))
  (seqS (loopS (.one 4) (rngM 1 (consM (varD 2) (fun _ => M.pure [])))
  (seqS (asgS (.one 5) (lstM (fun _ => M.pure [])))
  (seqS (loopS (.one 6) (rngM 1 (consM (varD 1) (fun _ => M.pure [])))
  (seqS (asgS (.one 7) (op2 (binD .Mod) (callM intD (consM (op2 (binD .Add) (varD 6) (callF 2 r__law_draw (consM (varD 0) (consM (varD 1) (fun _ => M.pure []))))) (fun _ => M.pure []))) (varD 1)))
  (seqS (dropS (methM "list" appendD (varD 5) (consM (ifV (asTest (op2 (cmpD .Eq) (varD 7) (varD 6))) (fun _ => M.pure .non) (varD 7)) (fun _ => M.pure []))))
  nextS)))
  (seqS (dropS (methM "list" appendD (varD 3) (consM (callM tupleD (consM (varD 5) (fun _ => M.pure []))) (fun _ => M.pure []))))
  nextS))))
  (seqS (retS (callM tupleD (consM (varD 3) (fun _ => M.pure []))))
  nextS))))
noncomputable def r__law_pattern : List D → M D := runB 8 b__law_pattern
noncomputable def b_machines_in : Ev → S := (seqS (ifS (orM (notM (truth (callM isiD (consM (varD 0) (consM (fun _ => M.pure (.ty "tuple")) (fun _ => M.pure [])))))) (orM (asTest (op2 (cmpD .Eq) (callM lenD (consM (varD 0) (fun _ => M.pure []))) (fun _ => M.pure (.int 0)))) (notM (truth (callM isiD (consM (op2 ixD (varD 0) (fun _ => M.pure (.int 0))) (consM (fun _ => M.pure (.ty "tuple")) (fun _ => M.pure []))))))))
  (seqS (retS (fun _ => M.pure (.int 3)))
  nextS)
  nextS)
  (seqS (retS (callM lenD (consM (op2 ixD (varD 0) (fun _ => M.pure (.int 0))) (fun _ => M.pure []))))
  nextS))
noncomputable def r_machines_in : List D → M D := runB 1 b_machines_in
noncomputable def b_check_pattern : Ev → S := (seqS (ifS (notM (truth (callF 3 r_is_pattern_of (consM (varD 0) (consM (varD 1) (consM (varD 2) (fun _ => M.pure [])))))))
  (seqS (raise0 "NoPattern")
  nextS)
  nextS)
  nextS)
noncomputable def r_check_pattern : List D → M D := runB 3 b_check_pattern
noncomputable def b_pattern_line : Ev → S := (seqS (retS (op2 (binD .Add) (methM "str" joinD (fun _ => M.pure (.str " ")) (consM (compM [1] (.one 1) (seqM (varD 0)) (fun _ => M.pure true) (ifV (asTest (op2 (cmpD .Is) (varD 1) (fun _ => M.pure .non))) (fun _ => M.pure (.str "-")) (callM strD (consM (varD 1) (fun _ => M.pure []))))) (fun _ => M.pure []))) (fun _ => M.pure (.str "\n"))))
  nextS)
noncomputable def r_pattern_line : List D → M D := runB 2 b_pattern_line
noncomputable def b_pattern_text : Ev → S := (seqS (asgS (.one 1) (callF 1 r_machines_in (consM (varD 0) (fun _ => M.pure []))))
  (seqS (ifS (notM (truth (callF 1 r_is_many (consM (varD 1) (fun _ => M.pure [])))))
  (seqS (raise0 "NoPattern")
  nextS)
  nextS)
  (seqS (dropS (callF 3 r_check_pattern (consM (varD 1) (consM (fun _ => M.pure .non) (consM (varD 0) (fun _ => M.pure []))))))
  (seqS (retS (methM "str" joinD (fun _ => M.pure (.str "")) (consM (compM [2] (.one 2) (seqM (varD 0)) (fun _ => M.pure true) (callF 1 r_pattern_line (consM (varD 2) (fun _ => M.pure [])))) (fun _ => M.pure []))))
  nextS))))
noncomputable def r_pattern_text : List D → M D := runB 3 b_pattern_text
noncomputable def b_lines_told : Ev → S := (seqS (ifS (notM (truth (callM isiD (consM (varD 0) (consM (fun _ => M.pure (.ty "str")) (fun _ => M.pure []))))))
  (seqS (exprS (fun _ => M.pure (.int 0)) (raise1 "BadText" "line"))
  nextS)
  nextS)
  (seqS (asgS (.one 1) (methM "str" splitD (varD 0) (consM (fun _ => M.pure (.str "\n")) (fun _ => M.pure []))))
  (seqS (retS (tupM (consM (sliceM (varD 1) (fun _ => M.pure none) (fun v => M.bind ((negV (fun _ => M.pure (.int 1))) v) partD)) (consM (op2 ixD (varD 1) (negV (fun _ => M.pure (.int 1)))) (fun _ => M.pure [])))))
  nextS)))
noncomputable def r_lines_told : List D → M D := runB 2 b_lines_told
noncomputable def b_is_number : Ev → S := (seqS (retS (andV (op2 (cmpD .Gt) (callM lenD (consM (varD 0) (fun _ => M.pure []))) (fun _ => M.pure (.int 0))) (andV (callM allD (consM (compM [1] (.one 1) (seqM (varD 0)) (fun _ => M.pure true) (op2 (cmpD .In) (varD 1) (fun _ => M.pure (.str "0123456789")))) (fun _ => M.pure []))) (orV (op2 (cmpD .Eq) (varD 0) (fun _ => M.pure (.str "0"))) (op2 (cmpD .NotEq) (op2 ixD (varD 0) (fun _ => M.pure (.int 0))) (fun _ => M.pure (.str "0")))))))
  nextS)
noncomputable def r_is_number : List D → M D := runB 2 b_is_number
noncomputable def b_number_told : Ev → S := (seqS (retS (ifV (andM (asTest (op2 (cmpD .LtE) (callM lenD (consM (varD 0) (fun _ => M.pure []))) (fun _ => M.pure (.int 12)))) (truth (callF 1 r_is_number (consM (varD 0) (fun _ => M.pure []))))) (callM intD (consM (varD 0) (fun _ => M.pure []))) (fun _ => M.pure .non)))
  nextS)
noncomputable def r_number_told : List D → M D := runB 1 b_number_told
noncomputable def b_entries_told : Ev → S := (seqS (asgS (.one 2) (lstM (fun _ => M.pure [])))
  (seqS (loopS (.many [3, 4]) (fun e => M.bind ((consM (varD 0) (fun _ => M.pure [])) e) enumSrc)
  (seqS (asgS (.one 5) (ifV (asTest (op2 (cmpD .Eq) (varD 4) (fun _ => M.pure (.str "-")))) (fun _ => M.pure .non) (callF 1 r_number_told (consM (varD 4) (fun _ => M.pure [])))))
  (seqS (ifS (andM (asTest (op2 (cmpD .NotEq) (varD 4) (fun _ => M.pure (.str "-")))) (orM (asTest (op2 (cmpD .Is) (varD 5) (fun _ => M.pure .non))) (orM (asTest (op2 (cmpD .GtE) (varD 5) (varD 1))) (asTest (op2 (cmpD .Eq) (varD 5) (varD 3))))))
  (seqS (retS (fun _ => M.pure .non))
  nextS)
  nextS)
  (seqS (dropS (methM "list" appendD (varD 2) (consM (varD 5) (fun _ => M.pure []))))
  nextS))))
  (seqS (retS (ifV (asTest (op2 (cmpD .Eq) (callM lenD (consM (varD 2) (fun _ => M.pure []))) (varD 1))) (callM tupleD (consM (varD 2) (fun _ => M.pure []))) (fun _ => M.pure .non)))
  nextS)))
noncomputable def r_entries_told : List D → M D := runB 6 b_entries_told
noncomputable def b_read_pattern : Ev → S := (seqS (ifS (notM (truth (callF 1 r_is_many (consM (varD 0) (fun _ => M.pure [])))))
  (seqS (raise0 "NoNumber")
  nextS)
  nextS)
  (seqS (asgS (.many [2, 3]) (callF 1 r_lines_told (consM (varD 1) (fun _ => M.pure []))))
  (seqS (asgS (.one 4) (lstM (fun _ => M.pure [])))
  (seqS (loopS (.many [5, 6]) (fun e => M.bind ((consM (varD 2) (fun _ => M.pure [])) e) enumSrc)
  (seqS (asgS (.one 7) (callF 2 r_entries_told (consM (methM "str" splitD (varD 6) (consM (fun _ => M.pure (.str " ")) (fun _ => M.pure []))) (consM (varD 0) (fun _ => M.pure [])))))
  (seqS (ifS (orM (asTest (op2 (cmpD .Is) (varD 7) (fun _ => M.pure .non))) (asTest (op2 (cmpD .Eq) (varD 5) (fun _ => M.pure (.int 30)))))
  (seqS (exprS (op2 (binD .Add) (varD 5) (fun _ => M.pure (.int 1))) (raise1 "BadText" "line"))
  nextS)
  nextS)
  (seqS (dropS (methM "list" appendD (varD 4) (consM (varD 7) (fun _ => M.pure []))))
  nextS))))
  (seqS (ifS (asTest (op2 (cmpD .NotEq) (varD 3) (fun _ => M.pure (.str ""))))
  (seqS (exprS (op2 (binD .Add) (callM lenD (consM (varD 2) (fun _ => M.pure []))) (fun _ => M.pure (.int 1))) (raise1 "BadText" "line"))
  nextS)
  nextS)
  (seqS (retS (callM tupleD (consM (varD 4) (fun _ => M.pure []))))
  nextS))))))
noncomputable def r_read_pattern : List D → M D := runB 8 b_read_pattern
noncomputable def b__law_pattern_text : Ev → S := (seqS (asgS (.one 1) (compM [2] (.one 2) (seqM (varD 0)) (fun _ => M.pure true) (methM "str" joinD (fun _ => M.pure (.str " ")) (consM (compM [3] (.one 3) (seqM (varD 2)) (fun _ => M.pure true) (ifV (asTest (op2 (cmpD .Is) (varD 3) (fun _ => M.pure .non))) (fun _ => M.pure (.str "-")) (callM strD (consM (varD 3) (fun _ => M.pure []))))) (fun _ => M.pure [])))))
  (seqS (retS (methM "str" joinD (fun _ => M.pure (.str "")) (consM (compM [4] (.one 4) (seqM (varD 1)) (fun _ => M.pure true) (op2 (binD .Add) (varD 4) (fun _ => M.pure (.str "\n")))) (fun _ => M.pure []))))
  nextS))
noncomputable def r__law_pattern_text : List D → M D := runB 5 b__law_pattern_text
noncomputable def b__law_same (me : List D → M D) : Ev → S := (seqS (ifS (truth (callM isiD (consM (varD 1) (consM (tupM (consM (fun _ => M.pure (.ty "list")) (consM (fun _ => M.pure (.ty "tuple")) (fun _ => M.pure [])))) (fun _ => M.pure [])))))
  (seqS (ifS (orM (asTest (op2 (cmpD .NotEq) (callM isiD (consM (varD 0) (consM (fun _ => M.pure (.ty "list")) (fun _ => M.pure [])))) (callM isiD (consM (varD 1) (consM (fun _ => M.pure (.ty "list")) (fun _ => M.pure [])))))) (asTest (op2 (cmpD .NotEq) (callM isiD (consM (varD 0) (consM (fun _ => M.pure (.ty "tuple")) (fun _ => M.pure [])))) (callM isiD (consM (varD 1) (consM (fun _ => M.pure (.ty "tuple")) (fun _ => M.pure [])))))))
  (seqS (retS (fun _ => M.pure (.bl false)))
  nextS)
  nextS)
  (seqS (retS (andV (op2 (cmpD .Eq) (callM lenD (consM (varD 0) (fun _ => M.pure []))) (callM lenD (consM (varD 1) (fun _ => M.pure [])))) (callM allD (consM (compM [2] (.one 2) (rngM 1 (consM (callM lenD (consM (varD 1) (fun _ => M.pure []))) (fun _ => M.pure []))) (fun _ => M.pure true) (callF 2 me (consM (op2 ixD (varD 0) (varD 2)) (consM (op2 ixD (varD 1) (varD 2)) (fun _ => M.pure []))))) (fun _ => M.pure [])))))
  nextS))
  nextS)
  (seqS (ifS (orM (asTest (op2 (cmpD .Is) (varD 1) (fun _ => M.pure .non))) (asTest (op2 (cmpD .NotEq) (callM isiD (consM (varD 0) (consM (fun _ => M.pure (.ty "bool")) (fun _ => M.pure [])))) (callM isiD (consM (varD 1) (consM (fun _ => M.pure (.ty "bool")) (fun _ => M.pure [])))))))
  (seqS (retS (andV (op2 (cmpD .Is) (varD 0) (fun _ => M.pure .non)) (op2 (cmpD .Is) (varD 1) (fun _ => M.pure .non))))
  nextS)
  nextS)
  (seqS (ifS (truth (callM isiD (consM (varD 1) (consM (fun _ => M.pure (.ty "int")) (fun _ => M.pure [])))))
  (seqS (retS (andV (callM isiD (consM (varD 0) (consM (fun _ => M.pure (.ty "int")) (fun _ => M.pure [])))) (op2 (cmpD .Eq) (varD 0) (varD 1))))
  nextS)
  nextS)
  (seqS (retS (andV (callM isiD (consM (varD 0) (consM (fun _ => M.pure (.ty "str")) (fun _ => M.pure [])))) (op2 (cmpD .Eq) (varD 0) (varD 1))))
  nextS))))
/-- r -/
abbrev law_same_is (r : Nat → List D → M D) : Prop := ∀ k, r (k + 1) = runB 3 (b__law_same (r k))
section
variable {p : Nat} {hs : Hs} {Q : Except Ex D → Hs → Prop}
@[simp] theorem wp_list_frl {xs : List D} {Q : D → Hs → Prop} : Wp (listD [.frl xs] hs) Q = Q (.loc hs.length) (hs ++ [.lst xs]) := rfl
theorem mulC (x y : Int) (h1 : -(2 ^ 64) < y := by decide) (h2 : y < 2 ^ 64 := by decide) : mulOk x y := .r h1 h2
theorem deck_ok {ns : List Int} (k : ∀ p h', hs.length ≤ p → Pot p h' → Gr [] hs h' → Q (.ok (.loc p)) h') : Wp (r__law_deck [.frl (ns.map .int)] hs) Q := by
  unfold r__law_deck b__law_deck
  simp
  refine wp_for (fun i e h => h = hs ∧ ∃ s x, e = [some (.frl (ns.map D.int)), some (.int s), x]) ⟨rfl, _, _, rfl⟩ ?_ ?_
  · rintro i d e h hi ⟨rfl, s, x, rfl⟩
    obtain ⟨n, _, rfl⟩ := List.mem_map.mp (List.mem_of_getElem? hi)
    simp [mulC]
  · rintro e h ⟨rfl, s, x, rfl⟩
    simp
    refine k _ _ (by omega) ⟨h.length, ns, 0, 0, 0, s, by omega, by simp, by simp, by omega⟩ .app
theorem mixed_ok {c t : Int} (k : ∀ v, 0 ≤ v → Q (.ok (.int v)) hs) : Wp (r__law_mixed [.int c, .int t] hs) Q := by
  have m1 : ∀ x : Int, mulOk 7919 x := fun x => .l (by decide) (by decide)
  have m2 : ∀ x y : Int, mulOk (x % 2147483647) y := fun x y => .l (by omega) (by omega)
  have d1 : divOk 1009 := .small (by decide) (by decide)
  have d2 : divOk 2003 := .small (by decide) (by decide)
  have d3 : divOk 16 := .small (by decide) (by decide)
  unfold r__law_mixed b__law_mixed
  simp [mulC, m1, m2, d1, d2, d3]
  exact k _ (by omega)
theorem draw_ok {n : Int} (h : Pot p hs) (hn : 0 < n) (hb : n.natAbs < big) (k : ∀ v h', 0 ≤ v → v < n → Pg p hs h' → Q (.ok (.int v)) h') : Wp (r__law_draw [.loc p, .int n] hs) Q := by
  obtain ⟨c, cells, a, b, s, t, h00, h1, h2, h3⟩ := h
  have h0 : c ≠ p := Nat.ne_of_lt h00
  have hp := cell_lt h2
  have dn : divOk n := .of hn hb
  have cut : ∀ {x a' b' s' t'}, 0 ≤ a' → Q (.ok (.int (x % n))) (hs.set p (.lst [.loc c, .int a', .int b', .int s', .int t'])) := fun {x a' b' s' t'} ha =>
    k _ _ (Int.emod_nonneg _ (by omega)) (Int.emod_lt_of_pos _ hn) (pot_wr h00 h1 h2 ha)
  unfold r__law_draw b__law_draw
  simp [h0, h0.symm, h1, h2, hp, dn, hn]
  refine ⟨fun hb0 => ⟨fun hlt => ?_, fun hge => ?_⟩, fun hb0 => ⟨fun hb1 => cut h3, fun hb1 => ?_⟩⟩
  · have hl : a.toNat < cells.length := by omega
    refine ⟨_, atI_nat (x := D.int cells[a.toNat]) (by simp [hl]) h3, ?_⟩
    simp [h0, h0.symm, hp, h1, dn, hn]
    refine ⟨fun _ => ⟨fun _ => mixed_ok fun v hv => ?_, fun _ => ⟨fun _ => cut (by omega), fun _ => mixed_ok fun v hv => ?_⟩⟩, fun _ => ⟨fun _ => cut (by omega), fun _ => mixed_ok fun v hv => ?_⟩⟩ <;> (simp [hn]; exact cut (by omega))
  · exact ⟨fun _ => cut h3, fun _ => mixed_ok fun v hv => by simp [hn]; exact cut h3⟩
  · exact mixed_ok fun v hv => by simp [hn]; exact cut h3
/-- what stays when the pot is drawn from -/
theorem Pg.mk2 {h h' : Hs} (g : Pg p hs h) (g' : Pg p h h') : Pg p hs h' := g.trans g'
theorem pattern_ok {many : Int} (h : Pot p hs) (hm : 3 ≤ many ∧ many ≤ 5) (k : ∀ pat h', pat.length ≤ 30 → patGood many pat → Pg p hs h' → Q (.ok (encP pat)) h') : Wp (r__law_pattern [.loc p, .int many] hs) Q := by
  have hlt := h.lt
  unfold r__law_pattern b__law_pattern
  simp only [wp_run, wp_seq, wp_asgS]
  refine Wp.mono (Q := okq fun d h1 => ∃ R : Int, d = .int R ∧ 0 ≤ R ∧ R ≤ 30 ∧ Pg p hs h1) ?_ ?_
  · simp
    refine draw_ok h (by decide) (sm (by decide) (by decide)) fun v h1 _ _ g1 => ?_
    simp
    exact ⟨fun _ => draw_ok g1.pot (by decide) (sm (by decide) (by decide)) fun v h2 a1 a2 g2 => ⟨v, rfl, a1, by omega, g1.trans g2⟩, fun _ => draw_ok g1.pot (by decide) (sm (by decide) (by decide)) fun v h2 a1 a2 g2 => ⟨v, rfl, a1, by omega, g1.trans g2⟩⟩
  rintro (_ | d) h1 q
  · exact q.elim
  obtain ⟨R, rfl, hR0, hR, g1⟩ := q
  have l1 := g1.gr.le
  simp
  refine ⟨⟨by omega, by omega⟩, ?_⟩
  refine wp_for (fun i e h => ∃ (rows : List (List (Option Int))) (x4 x5 x6 x7 : Option D), e = [some (.loc p), some (.int many), some (.int R), some (.loc h1.length), x4, x5, x6, x7] ∧ rows.length = i ∧ patGood many rows ∧ Pg p hs h ∧ h1.length < h.length ∧ cell h h1.length = some (.lst (rows.map encR))) ⟨[], _, _, _, _, rfl, rfl, fun r hr => by simp at hr, g1.trans (.push g1.pot), by simp, by simp⟩ ?_ ?_
  · rintro i d e h2 hi ⟨rows, x4, x5, x6, x7, rfl, hl, good, g, hln, hc⟩
    refine ⟨trivial, ?_⟩
    have hi30 : i < 30 := by
      have := (List.getElem?_eq_some_iff.mp hi).1
      rw [intL_len] at this
      omega
    simp
    refine ⟨⟨by omega, by omega⟩, ?_⟩
    refine wp_for (fun j e h => ∃ (r : List (Option Int)) (x6 x7 : Option D), e = [some (.loc p), some (.int many), some (.int R), some (.loc h1.length), some d, some (.loc h2.length), x6, x7] ∧ r.length = j ∧ (∀ (k : Nat) o, r[k]? = some o → entGood many (k : Nat) o) ∧ Pg p h2 h ∧ h2.length < h.length ∧ cell h h2.length = some (.lst (r.map encO))) ⟨[], x6, x7, rfl, rfl, fun k o ho => by simp at ho, .push g.pot, by simp, by simp⟩ ?_ ?_
    · rintro j d' e h3 hj ⟨r, x6, x7, rfl, hl2, gr, g3, hln3, hc3⟩
      obtain ⟨hjl, rfl⟩ := intL_at hj
      have hlt2 := g.pot.lt
      simp
      refine draw_ok g3.pot (by omega) (sm (by omega) (by omega)) fun v h4 a1 a2 g4 => ?_
      have q4 : cell h4 h2.length = some (.lst (r.map encO)) := g4.get hc3 (by omega)
      have l4 := g4.gr.le
      simp [show (0:Int) < many by omega]
      have fin : ∀ o : Option Int, entGood many (j : Nat) o → ∃ xs, cell h4 h2.length = some (.lst xs) ∧ xs.length < sizeLine ∧ ∃ r' : List (Option Int), r'.length = j + 1 ∧ (∀ (k : Nat) o, r'[k]? = some o → entGood many (k : Nat) o) ∧ Pg p h2 (h4.set h2.length (.lst (xs ++ [encO o]))) ∧ h2.length < h4.length ∧ cell (h4.set h2.length (.lst (xs ++ [encO o]))) h2.length = some (.lst (r'.map encO)) := fun o go => by
        have g5 := g3.trans g4
        refine ⟨_, q4, small1000 (by simp; omega), r ++ [o], by simp [hl2], fun k o2 ho => ?_, g5.set (Nat.le_refl _) hlt2, by omega, by rw [cell_set_self (by omega)]; simp⟩
        by_cases hk : k < r.length
        · rw [List.getElem?_append_left hk] at ho
          exact gr k o2 ho
        · rw [List.getElem?_append_right (by omega)] at ho
          have hk0 : k - r.length = 0 := by
            have := (List.getElem?_eq_some_iff.mp ho).1
            simp at this
            omega
          rw [hk0] at ho
          simp at ho
          subst ho
          have : k = j := by omega
          subst this
          exact go
      have b1 : 0 ≤ ((j : Int) + v) % many := Int.emod_nonneg _ (by omega)
      have b2 : ((j : Int) + v) % many < many := Int.emod_lt_of_pos _ (by omega)
      refine ⟨⟨_, q4⟩, fun _ => fin none (by simp [entGood]), fun hne => fin (some _) ?_⟩
      simp [entGood]
      omega
    · rintro e h3 ⟨r, x6, x7, rfl, hl2, gr, g3, hln3, hc3⟩
      refine ⟨trivial, ?_⟩
      rw [intL_len] at hl2
      have g4 := g.trans g3
      have q3 : cell h3 h1.length = some (.lst (rows.map encR)) := g3.get hc (by omega)
      have l3 := cell_lt q3
      have n1 : h1.length ≠ h2.length := by omega
      simp [q3, hc3, l3]
      refine ⟨small1000 (by omega), rows ++ [r], by simp [hl], fun q hq => ?_, g4.set l1 hlt, by simp [encR]⟩
      rcases List.mem_append.mp hq with hq | hq
      · exact good q hq
      · rw [List.mem_singleton.mp hq]
        exact ⟨by omega, gr⟩
  · rintro e h2 ⟨rows, x4, x5, x6, x7, rfl, hl, good, g, hln, hc⟩
    refine ⟨trivial, ?_⟩
    simp
    refine ⟨_, hc, ?_⟩
    rw [intL_len] at hl
    exact k rows h2 (by omega) good g
theorem smM {n : Nat} (h : n ≤ 16000000) : n < sizeLine := by rw [sizeLine_eq]; omega
theorem szM {n : Nat} (h : n ≤ 16777216) : n ≤ sizeLine := by rw [sizeLine_eq]; exact h
theorem wp_comp_wide {ok : Hs → Prop} {turn : D → M (Option D)} {items : List D} {hs : Hs} {Q : List D → Hs → Prop} (S : List Nat) (g : D → Option D) (hok : ∀ h, Gr S hs h → ok h) (hl : items.length ≤ 16000000)
    (step : ∀ d h, d ∈ items → Gr S hs h → Wp (turn d h) (okq fun o h' => o = g d ∧ Gr S h h')) (fin : ∀ h, Gr S hs h → Q (items.filterMap g) h) : Wp (compS ok turn items [] hs) Q := by
  refine wp_comp (fun i acc h => Gr S hs h ∧ acc = (items.take i).filterMap g) ⟨.refl, by simp⟩ ?_ ?_
  · rintro i d acc h hi ⟨gr, rfl⟩
    refine ⟨hok h gr, (step d h (List.mem_of_getElem? hi) gr).mono fun r h' q => ?_⟩
    cases r with
    | error e => exact q.elim
    | ok o =>
      obtain ⟨rfl, g2⟩ : o = g d ∧ Gr S h h' := q
      have hlt := (List.getElem?_eq_some_iff.mp hi).1
      have e : (items.take (i + 1)).filterMap g = (items.take i).filterMap g ++ (match g d with | some y => [y] | none => []) := by
        rw [List.take_succ, hi, List.filterMap_append]
        simp only [Option.toList]
        cases eg : g d <;> simp [eg]
      simp only [okq]
      cases eg : g d with
      | none => simp only [eg] at e; exact ⟨gr.trans g2, by rw [e]; simp⟩
      | some y =>
        simp only [eg] at e
        refine ⟨?_, gr.trans g2, e.symm⟩
        have := List.length_filterMap_le g (items.take i)
        have h2 := List.length_take_le i items
        exact smM (by omega)
  · rintro acc h ⟨gr, rfl⟩
    exact ⟨hok h gr, by rw [List.take_length]; exact fin h gr⟩
/-! ### handled errors -/
theorem hdM_yes {o : Option Nat} {x : Ex} {g : Tk → Ev → S} {rest : Ev → S} : hdM true o x g rest = suiteK o x g := rfl
theorem hdM_no {o : Option Nat} {x : Ex} {g : Tk → Ev → S} {rest : Ev → S} : hdM false o x g rest = rest := rfl
theorem wp_attr_exv {C : SC} {f : Str} {i : Nat} {e : Ev} {t : Tk} {c : Str} {as : List (Str × Lf)} {l : Lf} (h1 : C.hot = some t) (h2 : e[i]? = some (some (.exv t c as))) (h3 : as.lookup f = some l) : Wp (attrM C f (varD i) e hs) Q = Q (.ok l.d) hs := by
  unfold attrM
  rw [wp_bind, wp_var]
  simp only [onOk_ok]
  refine propext ⟨fun ⟨d, hd, q⟩ => ?_, fun q => ⟨_, h2, ?_⟩⟩
  · rw [h2] at hd
    cases hd
    simpa [h1, h3] using q
  · simpa [h1, h3] using q
theorem wp_lst_mul {n : Nat} {k : Int} {Q : D → Hs → Prop} : Wp (binD .Mult (.loc n) (.int k) hs) Q = (∃ xs, cell hs n = some (.lst xs) ∧ (0 ≤ k ∧ k ≤ 4000 ∧ xs.length ≤ 4000) ∧ Q (.loc hs.length) (hs ++ [.lst (List.replicate k.toNat xs).flatten])) := by
  unfold binD mulD newL
  simp only [cell_eq]
  cases h : cell hs n with
  | none => simp
  | some o =>
    cases o <;> simp
    rename_i xs
    by_cases hz : 0 ≤ k ∧ k ≤ 4000 ∧ xs.length ≤ 4000 <;> simp [hz]
/-! ### texts -/
/-- whom a machine misses, as a word -/
def wordO : Option Int → Str
  | none => "-"
  | some i => toString i
def wD : D → Str
  | .int i => toString i
  | _ => "-"
def rowT : D → Str
  | .tup es => Txt.join " " (es.map wD)
  | _ => ""
theorem wD_enc (r : List (Option Int)) : (r.map encO).map wD = r.map wordO := by
  induction r with
  | nil => rfl
  | cons o r ih => rw [List.map_cons, List.map_cons, List.map_cons, ih]; cases o <;> rfl
theorem rowT_enc (r : List (Option Int)) : rowT (encR r) = Txt.join " " (r.map wordO) := by
  show Txt.join " " ((r.map encO).map wD) = _
  rw [wD_enc]
theorem rowsT_enc (p : List (List (Option Int))) : (p.map encR).map rowT = p.map fun r => Txt.join " " (r.map wordO) := by
  rw [List.map_map]
  exact List.map_congr_left fun r _ => rowT_enc r
theorem fm_some {α β : Type} (f : α → β) (l : List α) : l.filterMap (fun a => some (f a)) = l.map f := by
  induction l with
  | nil => rfl
  | cons a l ih => simp
def lineR (r : List (Option Int)) : Str := Txt.join " " (r.map wordO) ++ ("\n" : Str)
def patText (p : List (List (Option Int))) : Str := Txt.join "" (p.map lineR)
theorem word_small {many me : Int} (hm : many ≤ 5) {o : Option Int} (h : entGood many me o) : (wordO o).length = 1 := by
  cases o with
  | none => rfl
  | some i =>
    obtain ⟨h0, h1, _⟩ := h
    have : i = 0 ∨ i = 1 ∨ i = 2 ∨ i = 3 ∨ i = 4 := by omega
    rcases this with rfl | rfl | rfl | rfl | rfl <;> decide +kernel
theorem sum_le {ws : List Str} {n : Nat} (h : ∀ w ∈ ws, w.length ≤ n) : (ws.map (·.length)).sum ≤ ws.length * n := by
  induction ws with
  | nil => simp
  | cons w ws ih =>
    have h1 := h w (by simp)
    have h2 := ih fun v hv => h v (by simp [hv])
    simp only [List.map_cons, List.sum_cons, List.length_cons]
    rw [Nat.add_mul, Nat.one_mul]
    omega
theorem join_len (y : Str) (ws : List Str) : (Txt.join y ws).length ≤ (ws.map (·.length)).sum + ws.length * y.length := by
  rw [join_eq]
  have e : ∀ z : Str, z.length = (tl z).length := fun z => by rw [len_tl]
  rw [e, tl_join]
  have : ∀ ps : List Str, (joinL (tl y) (ps.map tl)).length ≤ (ps.map (·.length)).sum + ps.length * y.length := by
    intro ps
    induction ps with
    | nil => simp [joinL]
    | cons p r ih =>
      cases r with
      | nil => simp [joinL, len_tl]
      | cons q r =>
        show (tl p ++ (tl y ++ joinL (tl y) ((q :: r).map tl))).length ≤ _
        simp only [List.length_append, len_tl, List.map_cons, List.sum_cons, List.length_cons] at ih ⊢
        rw [Nat.add_mul, Nat.one_mul]
        omega
  exact this ws
theorem joinOk_of {a : Str} {ws : List Str} {n : Nat} (h : ∀ w ∈ ws, w.length ≤ n) (h2 : ws.length * n + ws.length * a.length ≤ 16777216) : joinOk a ws := by
  have := sum_le h
  unfold joinOk
  omega
theorem sz {n : Nat} (h : n ≤ 16777216) : n ≤ sizeLine := by rw [sizeLine_eq]; exact h
theorem words_len {many : Int} (hm : many ≤ 5) {r : List (Option Int)} (h : rowGood many r) : ∀ w ∈ r.map wordO, w.length ≤ 1 := fun w hw => by
  obtain ⟨o, ho, rfl⟩ := List.mem_map.mp hw
  obtain ⟨i, hi⟩ := List.mem_iff_getElem?.mp ho
  exact Nat.le_of_eq (word_small hm (h.2 i o hi))
theorem str_len_append (a b : Str) : (a ++ b).length = a.length + b.length := by
  show (a.cps ++ b.cps).size = _
  simp [Str.length]
theorem lineR_len {many : Int} (hm : many ≤ 5) {r : List (Option Int)} (h : rowGood many r) : (lineR r).length ≤ 11 ∧ (Txt.join " " (r.map wordO)).length ≤ 10 := by
  have h1 := join_len " " (r.map wordO)
  have h2 := sum_le (words_len hm h)
  have h3 : r.length ≤ 5 := by have := h.1; omega
  have e : ((" " : Str)).length = 1 := rfl
  have e2 : (("\n" : Str)).length = 1 := rfl
  unfold lineR
  rw [str_len_append, e2]
  rw [e] at h1
  simp only [List.length_map] at h1 h2
  omega
theorem log_small {i : Int} (h : 0 ≤ i) (h2 : i < 5) : i.natAbs.log2 < 1920 := by
  have : i = 0 ∨ i = 1 ∨ i = 2 ∨ i = 3 ∨ i = 4 := by omega
  rcases this with rfl | rfl | rfl | rfl | rfl <;> decide +kernel
/-- a comprehension that tells each entry's word -/
theorem words_comp {ok : Hs → Prop} {ew : Ev} {i : Nat} {many : Int} (hm : many ≤ 5) {r : List (Option Int)} {Q : List D → Hs → Prop} (h : rowGood many r) (hok : ∀ h, Gr [] hs h → ok h) (he : i < ew.length)
    (q : ∀ h, Gr [] hs h → Q ((r.map wordO).map .str) h) :
    Wp (compS ok (turnM (.one i) (fun _ => M.pure true) (ifV (asTest (op2 (cmpD .Is) (varD i) (fun _ => M.pure .non))) (fun _ => M.pure (.str "-")) (callM strD (consM (varD i) (fun _ => M.pure [])))) ew) (r.map encO) [] hs) Q := by
  have h3 : r.length ≤ 5 := by have := h.1; omega
  refine wp_comp_grow [] (fun d => match d with | .int i => some (.str (toString i)) | _ => some (.str "-")) hok (by simp; omega) (fun d h' hd g => ?_) fun h' g => ?_
  · obtain ⟨o, ho, rfl⟩ := List.mem_map.mp hd
    obtain ⟨k, hk⟩ := List.mem_iff_getElem?.mp ho
    have go := h.2 k o hk
    cases o with
    | none => simp [encO, he]; exact .refl
    | some x =>
      obtain ⟨x0, x1, _⟩ := go
      simp [encO, he, log_small x0 (show x < 5 by omega)]
      exact .refl
  · have e : (r.map encO).filterMap (fun d => match d with | .int i => some (.str (toString i)) | _ => some (.str "-")) = (r.map wordO).map D.str := by
      clear h h3 q
      induction r with
      | nil => rfl
      | cons o r ih => cases o <;> simp [encO, wordO] at ih ⊢ <;> exact ih
    rw [e]
    exact q _ g
theorem pattern_line_ok {many : Int} (hm : many ≤ 5) {r : List (Option Int)} (h : rowGood many r) (q : ∀ h, Gr [] hs h → Q (.ok (.str (lineR r))) h) : Wp (r_pattern_line [encR r] hs) Q := by
  unfold r_pattern_line b_pattern_line
  have l := lineR_len hm h
  have h3 : r.length ≤ 5 := by have := h.1; omega
  simp [encR]
  refine words_comp hm h (fun _ _ => trivial) (by simp) fun h' g => ?_
  refine ⟨_, strsD_map _, joinOk_of (words_len hm h) (by simp [show ((" " : Str)).length = 1 from rfl]; omega), sz ?_, q _ (g.trans .push)⟩
  simp [show (("\n" : Str)).length = 1 from rfl]
  omega
theorem lines_len {many : Int} (hm : many ≤ 5) {p : List (List (Option Int))} (h : patGood many p) : ∀ w ∈ p.map lineR, w.length ≤ 11 := fun w hw => by
  obtain ⟨r, hr, rfl⟩ := List.mem_map.mp hw
  exact (lineR_len hm (h r hr)).1
theorem patText_len {many : Int} (hm : many ≤ 5) {p : List (List (Option Int))} (h : patGood many p) (hl : p.length ≤ 30) : (patText p).length ≤ 330 := by
  have h1 := join_len "" (p.map lineR)
  have h2 := sum_le (lines_len hm h)
  have e : (("" : Str)).length = 0 := rfl
  unfold patText
  rw [e] at h1
  simp only [List.length_map] at h1 h2
  omega
theorem lawText_ok {many : Int} (hm : many ≤ 5) {p : List (List (Option Int))} (h : patGood many p) (hl : p.length ≤ 30) (q : ∀ h, Gr [] hs h → Q (.ok (.str (patText p))) h) : Wp (r__law_pattern_text [encP p] hs) Q := by
  unfold r__law_pattern_text b__law_pattern_text
  simp [encP]
  refine wp_comp_grow [] (fun d => some (.str (rowT d))) (fun _ _ => trivial) (by simp; omega) (fun d h' hd g => ?_) fun h' g => ?_
  · obtain ⟨r, hr, rfl⟩ := List.mem_map.mp hd
    rw [rowT_enc]
    simp [encR]
    have h3 : r.length ≤ 5 := by have := (h r hr).1; omega
    refine words_comp hm (h r hr) (fun _ _ => trivial) (by simp) fun h2 g2 => ?_
    refine ⟨_, strsD_map _, joinOk_of (words_len hm (h r hr)) (by simp [show ((" " : Str)).length = 1 from rfl]; omega), rfl, g2.trans .push⟩
  · have e : (p.map encR).filterMap (fun d => some (D.str (rowT d))) = (p.map fun r => Txt.join " " (r.map wordO)).map D.str := by
      rw [← rowsT_enc, fm_some (fun d => D.str (rowT d)), List.map_map (f := rowT)]
      rfl
    rw [e]
    refine wp_comp_grow [] (fun d => match d with | .str x => some (.str (x ++ ("\n" : Str))) | _ => none) (fun h2 g2 => g2.get (by simp) (by simp)) (by simp; omega) (fun d h2 hd g2 => ?_) fun h2 g2 => ?_
    · obtain ⟨x, hx, rfl⟩ := List.mem_map.mp hd
      obtain ⟨r, hr, rfl⟩ := List.mem_map.mp hx
      have l := lineR_len hm (h r hr)
      simp
      exact ⟨sz (by simp [show (("\n" : Str)).length = 1 from rfl]; omega), .refl⟩
    · have e2 : ((p.map fun r => Txt.join " " (r.map wordO)).map D.str).filterMap (fun d => match d with | .str x => some (D.str (x ++ ("\n" : Str))) | _ => none) = (p.map lineR).map D.str := by
        clear h hl q e g2
        induction p with
        | nil => rfl
        | cons r p ih =>
          simp only [List.map_cons, List.filterMap_cons] at ih ⊢
          rw [ih]
          rfl
      rw [e2]
      exact ⟨_, strsD_map _, joinOk_of (lines_len hm h) (by simp [show (("" : Str)).length = 0 from rfl]; omega), q _ ((g.trans .push).trans (g2.trans .push))⟩
/-- how many machines a thing's first round tells of -/
def machD : D → Int
  | .tup (.tup xs :: _) => xs.length
  | _ => 3
theorem machines_ok {d : D} (k : Kn2 hs d) : Wp (r_machines_in [d] hs) Q = Q (.ok (.int (machD d))) hs := by
  unfold r_machines_in b_machines_in
  obtain ⟨k1, k2⟩ := k
  cases k1 with
  | tup =>
    rename_i xs
    cases xs with
    | nil => simp [machD]
    | cons x r =>
      have kx := (k2 _ rfl x (by simp)).1
      have h0 : ¬ ((r.length : Int) + 1 = 0) := by omega
      cases kx <;> simp [machD, h0, *]
  | _ => simp [machD, *]
theorem check_ok {many : Int} {d : D} (hm : 0 ≤ many ∧ many ≤ 1000) (k : Kn2 hs d) (q : ∀ h, Gr [] hs h → patOk many 0 30 d = true → Q (.ok .non) h) (q' : ∀ h, Gr [] hs h → patOk many 0 30 d = false → Q (.error ⟨"NoPattern", []⟩) h) : Wp (r_check_pattern [.int many, .non, d] hs) Q := by
  unfold r_check_pattern b_check_pattern
  simp
  refine is_pattern_of_ok (.inl ⟨rfl, rfl, rfl⟩) (by decide) hm k fun h g => ?_
  simp
  exact ⟨fun e => q' h g e, fun e => q h g e⟩
theorem text_ok {many : Int} (hm : 3 ≤ many ∧ many ≤ 5) {p : List (List (Option Int))} (h : patGood many p) (hl : p.length ≤ 30) (q : ∀ h, Gr [] hs h → Q (.ok (.str (patText p))) h) : Wp (r_pattern_text [encP p] hs) Q := by
  have hm2 : ∃ m, machD (encP p) = m ∧ 3 ≤ m ∧ m ≤ 5 ∧ patGood m p := by
    cases p with
    | nil => exact ⟨3, rfl, by decide, by decide, fun r hr => by simp at hr⟩
    | cons r p =>
      have e := (h r (by simp)).1
      refine ⟨many, ?_, hm.1, hm.2, h⟩
      show (((r.map encO).length : Nat) : Int) = many
      simpa using e
  obtain ⟨m, em, m1, m2, hg⟩ := hm2
  unfold r_pattern_text b_pattern_text
  simp [machines_ok (kn_p p), em, is_many_ok Kn.int, within, m1, m2]
  refine check_ok (by omega) (kn_p p) (fun h1 g1 _ => ?_) (fun h1 g1 e => ?_)
  · simp [encP]
    refine wp_comp_grow [] (fun d => some (.str (rowT d ++ ("\n" : Str)))) (fun _ _ => trivial) (by simp; omega) (fun d h' hd g => ?_) fun h' g => ?_
    · obtain ⟨r, hr, rfl⟩ := List.mem_map.mp hd
      simp
      refine pattern_line_ok hm.2 (h r hr) fun h2 g2 => ?_
      exact ⟨by rw [rowT_enc]; rfl, g2⟩
    · have e : (p.map encR).filterMap (fun d => some (D.str (rowT d ++ ("\n" : Str)))) = (p.map lineR).map D.str := by
        rw [fm_some (fun d => D.str (rowT d ++ ("\n" : Str))), List.map_map, List.map_map]
        refine List.map_congr_left fun r _ => ?_
        show D.str (rowT (encR r) ++ _) = _
        rw [rowT_enc]
        rfl
      rw [e]
      exact ⟨_, strsD_map _, joinOk_of (lines_len hm.2 h) (by simp [show (("" : Str)).length = 0 from rfl]; omega), q _ (g1.trans (g.trans .push))⟩
  · rw [patOk_enc hg (by omega) (by omega)] at e
    cases e
theorem text_no {d : D} (k : Kn2 hs d) (hl : machD d ≤ 1000) (hno : patOk (machD d) 0 30 d = true → ¬ (3 ≤ machD d ∧ machD d ≤ 5)) (q : ∀ h, Gr [] hs h → Q (.error ⟨"NoPattern", []⟩) h) : Wp (r_pattern_text [d] hs) Q := by
  have h0 : 0 ≤ machD d := by
    unfold machD
    split <;> omega
  unfold r_pattern_text b_pattern_text
  simp [machines_ok k, is_many_ok Kn.int, within]
  refine ⟨fun hm => q hs .refl, fun h1 h2 => ?_⟩
  refine check_ok (by omega) k (fun h g e => ?_) (fun h g e => q h g)
  exact absurd ⟨h1, h2⟩ (hno e)
/-! ### numbers that words tell -/
def digs (l : List Nat) : Bool := l.all fun c => decide (c ∈ tl "0123456789")
theorem digs_all {l : List Nat} (h : digs l = true) : NumText.AllDigits l := fun c hc => by
  have h1 := List.all_eq_true.mp h c hc
  have h2 : tl "0123456789" = [48, 49, 50, 51, 52, 53, 54, 55, 56, 57] := by decide +kernel
  rw [h2] at h1
  simp at h1
  omega
theorem digs_of {l : List Nat} (h : NumText.AllDigits l) : digs l = true := List.all_eq_true.mpr fun c hc => by
  have h1 := h c hc
  have h2 : tl "0123456789" = [48, 49, 50, 51, 52, 53, 54, 55, 56, 57] := by decide +kernel
  rw [h2]
  simp
  omega
def isNumL : List Nat → Bool
  | [] => false
  | c :: r => digs (c :: r) && (decide (c :: r = [48]) || decide (c ≠ 48))
def numTold (w : Str) : Option Int := if w.length ≤ 12 ∧ isNumL (tl w) = true then some ((NumText.digitsVal (tl w) : Nat) : Int) else none
theorem isNumL_cons {c : Nat} {r : List Nat} : isNumL (c :: r) = (digs (c :: r) && (decide (c :: r = [48]) || decide (c ≠ 48))) := rfl
theorem all_false {bs : List Bool} : false ∈ bs ↔ bs.all id = false := by
  induction bs with
  | nil => simp
  | cons b r ih => cases b <;> simp_all
theorem isNumL_all {l : List Nat} (h : isNumL l = true) : NumText.AllDigits l ∧ l ≠ [] := by
  cases l with
  | nil => cases h
  | cons c r =>
    unfold isNumL at h
    rw [Bool.and_eq_true] at h
    exact ⟨digs_all h.1, by simp⟩
def signG : D → Option D
  | .str z => some (D.bl (!(Builtin.Str.occurrences "0123456789" z 0 (("0123456789" : Str)).length 1).isEmpty))
  | _ => none
theorem signs_fm (x : Str) : (signs x).filterMap signG = ((tl x).map fun c => decide (c ∈ tl "0123456789")).map .bl := by
  unfold signs
  show List.filterMap _ ((tl x).map _) = _
  generalize tl x = l
  induction l with
  | nil => rfl
  | cons c l ih =>
    simp only [List.map_cons, List.filterMap_cons, signG] at ih ⊢
    rw [ih, ← PySem.StrLaws.found_one "0123456789" c]
theorem is_number_ok {w : Str} (hw : w.length ≤ 1000) (q : ∀ h, Gr [] hs h → Q (.ok (.bl (isNumL (tl w)))) h) : Wp (r_is_number [.str w] hs) Q := by
  unfold r_is_number b_is_number
  have hl := len_tl w
  simp [sz (show w.length ≤ 16777216 by omega)]
  refine ⟨fun h0 => ?_, fun h0 => ?_⟩
  · refine wp_comp_grow [] signG (fun _ _ => trivial) (by rw [signs_len]; exact hw) (fun d h hd g => ?_) fun h g => ?_
    rotate_left
    · obtain ⟨bs, hbs, e1⟩ : ∃ bs : List Bool, (signs w).filterMap signG = bs.map .bl ∧ bs.all id = digs (tl w) := ⟨_, signs_fm w, by rw [List.all_map]; rfl⟩
      rw [hbs]
      have g2 := q _ (g.trans (Gr.push (o := .lst (bs.map D.bl))))
      cases hw2 : tl w with
      | nil => rw [hw2] at hl; simp at hl; omega
      | cons c r =>
        have w0 : w.cps[0]? = some c := by
          rw [← Array.getElem?_toList]
          show (tl w)[0]? = _
          rw [hw2]; rfl
        have z1 : w = ("0" : Str) ↔ c :: r = [48] := by
          rw [← hw2]
          exact ⟨fun e => by rw [e]; rfl, fun e => ext_tl (by rw [e]; rfl)⟩
        have z2 : (⟨#[c]⟩ : Str) = ("0" : Str) ↔ c = 48 := by
          refine ⟨fun e => ?_, fun e => by rw [e]; rfl⟩
          have := congrArg tl e
          have e3 : tl ("0" : Str) = [48] := rfl
          rw [e3] at this
          simpa [tl] using this
        rw [hw2] at e1 g2
        rw [isNumL_cons] at g2
        refine ⟨bs, flags_bl bs, ?_⟩
        rw [all_false, e1]
        cases hd : digs (c :: r) with
        | false =>
          rw [hd] at g2
          exact ⟨fun _ => g2, fun hn => absurd rfl hn⟩
        | true =>
          rw [hd] at g2
          refine ⟨fun hn => (by cases hn), fun _ => ⟨fun q1 => ?_, fun q1 => ⟨c, w0, ?_⟩⟩⟩
          · rw [z1.mp q1] at g2
            simpa [q1] using g2
          · have q2 : ¬ (c :: r = [48]) := fun e => q1 (z1.mpr e)
            simpa [q2, z2] using g2
    · obtain ⟨c, hc, rfl⟩ := List.mem_map.mp hd
      simp [signG]
      exact .refl
  · have e : tl w = [] := List.length_eq_zero_iff.mp (by omega)
    have := q hs .refl
    rw [e] at this
    simpa [h0, isNumL] using this
theorem number_told_ok {w : Str} (hw : w.length ≤ 5000001) (q : ∀ h, Gr [] hs h → Q (.ok (encO (numTold w))) h) : Wp (r_number_told [.str w] hs) Q := by
  unfold r_number_told b_number_told
  have hl := len_tl w
  simp [sz (show w.length ≤ 16777216 by omega)]
  have no : ¬ (w.length ≤ 12 ∧ isNumL (tl w) = true) → encO (numTold w) = .non := fun h => by
    unfold numTold
    rw [if_neg h]; rfl
  refine ⟨fun h12 => is_number_ok (by omega) fun h g => ?_, fun h12 => ?_⟩
  · simp
    refine ⟨fun e => ?_, fun e => ?_⟩
    · have e2 : intTxt w = some ((NumText.digitsVal (tl w) : Nat) : Int) := by
        unfold intTxt
        obtain ⟨z1, z2⟩ := isNumL_all e
        rw [if_pos (by omega)]
        exact PySem.intText_digits z1 z2 (by omega)
      refine ⟨_, e2, ?_⟩
      have := q h g
      unfold numTold at this
      rw [if_pos ⟨by omega, e⟩] at this
      exact this
    · have := q h g
      rw [no (by rw [e]; simp)] at this
      exact this
  · have := q hs .refl
    rw [no (by omega)] at this
    exact this
/-- the entry that a word tells -/
def entW (many me : Int) (w : Str) : Option (Option Int) := if w = ("-" : Str) then some none else match numTold w with
  | some n => if many ≤ n ∨ n = me then none else some (some n)
  | none => none
def entsL (many : Int) : Nat → List Str → Option (List (Option Int))
  | _, [] => some []
  | k, w :: ws => match entW many (k : Nat) w with
    | some o => (entsL many (k + 1) ws).map (o :: ·)
    | none => none
def entries (many : Int) (ws : List Str) : Option (List (Option Int)) := match entsL many 0 ws with
  | some r => if (r.length : Int) = many then some r else none
  | none => none
theorem entsL_app {many : Int} : ∀ {a b : List Str} {k : Nat}, entsL many k (a ++ b) = (entsL many k a).bind fun r => (entsL many (k + a.length) b).map (r ++ ·)
  | [], b, k => by simp [entsL]
  | w :: a, b, k => by
    simp only [List.cons_append, entsL, entsL_app (a := a)]
    have e : k + 1 + a.length = k + (w :: a).length := by simp; omega
    rw [e]
    cases entW many k w with
    | none => rfl
    | some o =>
      cases entsL many (k + 1) a with
      | none => rfl
      | some r =>
        simp only [Option.map_some, Option.bind_some]
        cases entsL many (k + (w :: a).length) b <;> rfl
theorem entsL_len {many : Int} : ∀ {a : List Str} {k : Nat} {r : List (Option Int)}, entsL many k a = some r → r.length = a.length
  | [], _, _, h => by cases h; rfl
  | w :: a, k, r, h => by
    simp only [entsL] at h
    cases e : entW many k w with
    | none => rw [e] at h; cases h
    | some o =>
      rw [e] at h
      obtain ⟨r', e', rfl⟩ := Option.map_eq_some_iff.mp h
      simp [entsL_len e']
def encE : Option (List (Option Int)) → D
  | some r => encR r
  | none => .non
theorem entries_told_ok {many : Int} {n : Nat} {ws : List Str} (hc : cell hs n = some (.lst (ws.map .str))) (hl : ws.length ≤ 5000002) (hw : ∀ w ∈ ws, w.length ≤ 5000001) (q : ∀ h, Gr [] hs h → Q (.ok (encE (entries many ws))) h) :
    Wp (r_entries_told [.loc n, .int many] hs) Q := by
  unfold r_entries_told b_entries_told
  have hn := cell_lt hc
  simp [hc, hn]
  refine wp_for (fun i e h => ∃ (r : List (Option Int)) (x3 x4 x5 : Option D), e = [some (.loc n), some (.int many), some (.loc hs.length), x3, x4, x5] ∧ entsL many 0 (ws.take i) = some r ∧ Gr [] hs h ∧ hs.length < h.length ∧ cell h hs.length = some (.lst (r.map encO))) ⟨[], _, _, _, rfl, rfl, .push, by simp, by simp⟩ ?_ ?_
  · rintro i d e h hi ⟨r, x3, x4, x5, rfl, er, g, hln, hc2⟩
    obtain ⟨x, hx, rfl⟩ := enumL_at hi
    rw [List.getElem?_map] at hx
    obtain ⟨w, hw0, rfl⟩ := Option.map_eq_some_iff.mp hx
    have hlt : i < ws.length := (List.getElem?_eq_some_iff.mp hw0).1
    have hmem := List.mem_of_getElem? hw0
    have hrl := entsL_len er
    have hrl2 : r.length = i := by rw [hrl]; simp; omega
    refine ⟨g.get hc (by simp), ?_⟩
    have step : entsL many 0 (ws.take (i + 1)) = (entW many (i : Nat) w).map fun o => r ++ [o] := by
      rw [List.take_succ, hw0, Option.toList, entsL_app, er]
      have e0 : (0 + (ws.take i).length) = i := by simp; omega
      rw [e0]
      simp only [Option.bind_some, entsL]
      cases entW many (i : Nat) w <;> rfl
    have whole : entW many (i : Nat) w = none → entries many ws = none := fun e => by
      unfold entries
      rw [show ws = ws.take (i + 1) ++ ws.drop (i + 1) from (List.take_append_drop _ _).symm, entsL_app, step, e]
      rfl
    have more : ∀ h1 o, Gr [] h h1 → entW many (i : Nat) w = some o → ∃ xs, cell h1 hs.length = some (.lst xs) ∧ xs.length < sizeLine ∧ ∃ r' : List (Option Int), entsL many 0 (ws.take (i + 1)) = some r' ∧ Gr [] hs (h1.set hs.length (.lst (xs ++ [encO o]))) ∧ hs.length < h1.length ∧ cell (h1.set hs.length (.lst (xs ++ [encO o]))) hs.length = some (.lst (r'.map encO)) := fun h1 o g1 eo => by
      have q1 := g1.get hc2 (by simp)
      have l1 := cell_lt q1
      refine ⟨_, q1, smM (by simp; omega), r ++ [o], by rw [step, eo]; rfl, (g.trans g1).set_new (Nat.le_refl _), l1, by rw [cell_set_self l1]; simp⟩
    simp
    refine ⟨fun e1 => ⟨fun _ => ⟨⟨_, hc2⟩, more h none .refl (by unfold entW; rw [if_pos e1])⟩, fun n1 => absurd e1 n1⟩, fun n1 => ?_⟩
    refine number_told_ok (hw w hmem) fun h1 g1 => ?_
    have ew : entW many (i : Nat) w = match numTold w with | some n => if many ≤ n ∨ n = (i : Nat) then none else some (some n) | none => none := by
      unfold entW; rw [if_neg n1]
    cases et : numTold w with
    | none =>
      rw [et] at ew
      have := q h1 (g.trans g1)
      rw [whole ew] at this
      simp [encO, n1]
      exact this
    | some v =>
      rw [et] at ew
      have c1 : many ≤ v ∨ v = (i : Nat) → Q (.ok .non) h1 := fun c => by
        simp only [if_pos c] at ew
        have := q h1 (g.trans g1)
        rw [whole ew] at this
        exact this
      simp [encO, n1]
      refine ⟨fun a => c1 (.inl a), fun a => ⟨fun b => c1 (.inr b), fun b => ⟨⟨_, g1.get hc2 (by simp)⟩, more h1 (some v) g1 ?_⟩⟩⟩
      rw [ew]
      exact if_neg (by omega)
  · rintro e h ⟨r, x3, x4, x5, rfl, er, g, hln, hc2⟩
    refine ⟨g.get hc (by simp), ?_⟩
    have er : entsL many 0 ws = some r := by
      rw [enumL_len, List.length_map, List.take_length] at er
      exact er
    have := q h g
    unfold entries at this
    simp only [er] at this
    simp [hc2]
    refine ⟨fun e => ?_, fun e => ?_⟩
    · rw [if_pos e] at this; exact this
    · rw [if_neg e] at this; exact this
/-! ### reading -/
def readL (many : Int) : Nat → List Str → Except Int (List (List (Option Int)))
  | _, [] => .ok []
  | k, l :: ls => match entries many (Txt.split l " ") with
    | none => .error ((k : Int) + 1)
    | some r => if k = 30 then .error ((k : Int) + 1) else match readL many (k + 1) ls with
      | .ok p => .ok (r :: p)
      | .error e => .error e
def readP (many : Int) (t : Str) : Except Int (List (List (Option Int))) := match readL many 0 (Txt.split t "\n").dropLast with
  | .error e => .error e
  | .ok p => if (Txt.split t "\n").getLastD "" ≠ "" then .error (((Txt.split t "\n").dropLast.length : Int) + 1) else .ok p
def readR : Except Int (List (List (Option Int))) → Except Ex D
  | .ok p => .ok (encP p)
  | .error e => .error ⟨"BadText", [("line", .int e)]⟩
theorem split_ne (x y : Str) : Txt.split x y ≠ [] := by
  unfold Txt.split
  split
  · simp
  · split
    · simp
    · rename_i h1 h2
      intro h
      rw [StrLaws.partsBetween_eq] at h
      cases ho : Builtin.Str.occurrences x y 0 x.length (x.length + 1) with
      | nil => rw [ho] at h2; exact h2 rfl
      | cons c r => rw [ho] at h; cases h
theorem cut_last {xs : List D} {y : D} : cutD (xs ++ [y]) none (some (-1)) = xs := by
  unfold cutD HT.sIx
  have e : ((-1 : Int) + ((xs ++ [y]).length : Nat)).toNat = xs.length := by simp only [List.length_append, List.length_cons, List.length_nil]; omega
  simp only [List.drop_zero, Nat.sub_zero]
  rw [if_pos (by decide), e]
  simp
theorem atI_last {xs : List D} {y : D} : atI (xs ++ [y]) (-1) = some y := by
  unfold atI ixN
  have e : ((-1 : Int) + ((xs ++ [y]).length : Nat)).toNat = xs.length := by simp only [List.length_append, List.length_cons, List.length_nil]; omega
  have e2 : -(((xs ++ [y]).length : Nat) : Int) ≤ -1 := by simp only [List.length_append, List.length_cons, List.length_nil]; omega
  rw [if_neg (by decide), if_pos (by omega), e]
  simp
theorem split_last (x y : Str) : ∃ ls z, Txt.split x y = ls ++ [z] := by
  rcases List.eq_nil_or_concat (Txt.split x y) with h | ⟨ls, z, h⟩
  · exact absurd h (split_ne x y)
  · exact ⟨ls, z, by simpa using h⟩
theorem joinL_mem {S : List Nat} : ∀ {ps : List (List Nat)} {p : List Nat}, p ∈ ps → p.length ≤ (joinL S ps).length
  | [], _, h => by cases h
  | [q], p, h => by rw [List.mem_singleton.mp h]; exact Nat.le_refl _
  | q :: r :: ps, p, h => by
    show p.length ≤ (q ++ (S ++ joinL S (r :: ps))).length
    rcases List.mem_cons.mp h with rfl | h
    · simp
    · have := joinL_mem (S := S) h
      simp only [List.length_append]
      omega
theorem split_mem {x y w : Str} (h : w ∈ Txt.split x y) : w.length ≤ x.length := by
  have e := StrLaws.join_split x y
  have h2 : tl w ∈ (Txt.split x y).map tl := List.mem_map.mpr ⟨w, h, rfl⟩
  have := joinL_mem (S := tl y) h2
  rw [← tl_join, e] at this
  rw [len_tl w, len_tl x]
  exact this
theorem lines_told_ok {t : Str} {ls : List Str} {z : Str} (e : Txt.split t "\n" = ls ++ [z]) (ht : t.length + 2 ≤ sizeLine) (q : ∀ n h, Gr [] hs h → cell h n = some (.lst (ls.map .str)) → Q (.ok (.tup [.loc n, .str z])) h) : Wp (r_lines_told [.str t] hs) Q := by
  unfold r_lines_told b_lines_told
  simp [ht, e]
  refine ⟨by decide, _, atI_last, ?_⟩
  rw [cut_last]
  exact q _ _ .app (by simp)
theorem lines_no {d : D} (k : Kn hs d) (hd : ∀ x, d ≠ .str x) (q : Q (.error ⟨"BadText", [("line", .int 0)]⟩) hs) : Wp (r_lines_told [d] hs) Q := by
  unfold r_lines_told b_lines_told
  cases k <;> simp [*]
  exact absurd rfl (hd _)
theorem read_ok {many : Int} (hm : 3 ≤ many ∧ many ≤ 5) {t : Str} (ht : t.length ≤ 5000000) (q : ∀ h, Gr [] hs h → Q (readR (readP many t)) h) : Wp (r_read_pattern [.int many, .str t] hs) Q := by
  obtain ⟨ls, z, e⟩ := split_last t "\n"
  have ml : ∀ l ∈ ls, l.length ≤ 5000000 := fun l hl => Nat.le_trans (split_mem (y := "\n") (by rw [e]; simp [hl])) ht
  have eP : readP many t = match readL many 0 ls with | .error e => .error e | .ok p => if z ≠ "" then .error ((ls.length : Int) + 1) else .ok p := by
    unfold readP
    rw [e]
    simp
  unfold r_read_pattern b_read_pattern
  simp [is_many_ok Kn.int, within, hm.1, hm.2]
  refine lines_told_ok e (by rw [sizeLine_eq]; omega) fun n h0 g0 hc => ?_
  have hn := cell_lt hc
  simp [hc, hn]
  refine wp_for (fun i e h => ∃ (p : List (List (Option Int))) (x5 x6 x7 : Option D), e = [some (.int many), some (.str t), some (.loc n), some (.str z), some (.loc h0.length), x5, x6, x7] ∧ p.length = i ∧ i ≤ 30 ∧ (readL many 0 ls = (readL many i (ls.drop i)).map (p ++ ·)) ∧ Gr [] h0 h ∧ h0.length < h.length ∧ cell h h0.length = some (.lst (p.map encR))) ⟨[], _, _, _, rfl, rfl, by omega, ?_, .push, by simp, by simp⟩ ?_ ?_
  · simp
    cases readL many 0 ls <;> rfl
  · rintro i d e2 h hi ⟨p, x5, x6, x7, rfl, hp, hi30, er, g, hln, hc2⟩
    obtain ⟨x, hx, rfl⟩ := enumL_at hi
    rw [List.getElem?_map] at hx
    obtain ⟨l, hl0, rfl⟩ := Option.map_eq_some_iff.mp hx
    have hlt : i < ls.length := (List.getElem?_eq_some_iff.mp hl0).1
    have hmem := List.mem_of_getElem? hl0
    have hl5 := ml l hmem
    refine ⟨g.get hc (by simp), ?_⟩
    have ed : ls.drop i = l :: ls.drop (i + 1) := by
      rw [List.drop_eq_getElem_cons hlt]
      congr 1
      rw [List.getElem?_eq_getElem hlt] at hl0
      exact Option.some.inj hl0
    rw [ed] at er
    simp [sz (show l.length + 2 ≤ 16777216 by omega)]
    refine ⟨by decide, entries_told_ok (by simp) (Nat.le_trans (PyProof.Rows.split_le l " ") (by omega)) (fun w hw => by have := split_mem hw; omega) fun h1 g1 => ?_⟩
    have g2 : Gr [] h h1 := Gr.trans .push g1
    have gq := g0.trans (g.trans g2)
    cases ee : entries many (Txt.split l " ") with
    | none =>
      simp only [readL, ee] at er
      have := q h1 gq
      rw [eP, er] at this
      simp [encE]
      exact this
    | some r =>
      simp only [readL, ee] at er
      simp [encE, encR]
      refine ⟨fun h30 => ?_, fun h30 => ?_⟩
      · have h30 : i = 30 := by omega
        rw [if_pos h30] at er
        have := q h1 gq
        rw [eP, er] at this
        exact this
      · rw [if_neg (by omega)] at er
        have q1 := g2.get hc2 (by simp)
        have l1 := cell_lt q1
        refine ⟨⟨_, q1⟩, _, q1, small1000 (by simp; omega), p ++ [r], by simp [hp], by omega, ?_, (g.trans g2).set_new (Nat.le_refl _), l1, by rw [cell_set_self l1]; simp [encR]⟩
        rw [er]
        cases readL many (i + 1) (ls.drop (i + 1)) with
        | error _ => rfl
        | ok p2 =>
          show Except.ok (p ++ r :: p2) = Except.ok (p ++ [r] ++ p2)
          simp
  · rintro e2 h ⟨p, x5, x6, x7, rfl, hp, hi30, er, g, hln, hc2⟩
    have hp : p.length = ls.length := by simpa [enumL_len] using hp
    refine ⟨g.get hc (by simp), ?_⟩
    have := q h (g0.trans g)
    have er : readL many 0 ls = .ok p := by
      rw [er, enumL_len, List.length_map, List.drop_length]
      simp [readL, Except.map]
    rw [eP, er] at this
    have q2 := g.get hc (by simp)
    simp [hc2, q2]
    refine ⟨fun hz => ?_, fun hz => ?_⟩
    · have h4 : ¬ (z ≠ ("" : Str)) := by simpa using hz
      simp only [if_neg h4] at this
      exact this
    · simpa [hz, readR, encP] using this
/-! ### a pattern's text is read back -/
def line0 (r : List (Option Int)) : Str := Txt.join " " (r.map wordO)
theorem joinL_nil : ∀ {ps : List (List Nat)}, joinL [] ps = ps.flatten
  | [] => rfl
  | [p] => by simp [joinL]
  | p :: q :: r => by
    show p ++ ([] ++ joinL [] (q :: r)) = _
    rw [joinL_nil]; simp
theorem joinL_feed {S : List Nat} : ∀ {ps : List (List Nat)}, joinL S (ps ++ [[]]) = (ps.map (· ++ S)).flatten
  | [] => rfl
  | [p] => by simp [joinL]
  | p :: q :: r => by
    show p ++ (S ++ joinL S (q :: r ++ [[]])) = _
    rw [joinL_feed]; simp
theorem join_feed (ls : List Str) (y : Str) : Txt.join "" (ls.map (· ++ y)) = Txt.join y (ls ++ [("" : Str)]) := by
  refine ext_tl ?_
  rw [join_eq, join_eq, tl_join, tl_join]
  have e : tl ("" : Str) = [] := rfl
  rw [e, joinL_nil, List.map_append, List.map_cons, List.map_nil, e, joinL_feed, List.map_map, List.map_map]
  congr 1
  refine List.map_congr_left fun l _ => ?_
  exact tl_append l y
theorem joinL_elem {S : List Nat} {c : Nat} : ∀ {ps : List (List Nat)}, c ∈ joinL S ps → c ∈ S ∨ ∃ p ∈ ps, c ∈ p
  | [], h => by cases h
  | [p], h => .inr ⟨p, by simp, h⟩
  | p :: q :: r, h => by
    have h : c ∈ p ++ (S ++ joinL S (q :: r)) := h
    rcases List.mem_append.mp h with h | h
    · exact .inr ⟨p, by simp, h⟩
    · rcases List.mem_append.mp h with h | h
      · exact .inl h
      · rcases joinL_elem h with h | ⟨z, hz, h⟩
        · exact .inl h
        · exact .inr ⟨z, List.mem_cons_of_mem _ hz, h⟩
theorem word_facts {many me : Int} (hm : many ≤ 5) {o : Option Int} (h : entGood many me o) : (∀ c ∈ tl (wordO o), 45 ≤ c ∧ c ≤ 52) ∧ entW many me (wordO o) = some o := by
  cases o with
  | none => exact ⟨by decide +kernel, rfl⟩
  | some i =>
    obtain ⟨h0, h1, h2⟩ := h
    have key : (∀ c ∈ tl (wordO (some i)), 45 ≤ c ∧ c ≤ 52) ∧ wordO (some i) ≠ ("-" : Str) ∧ numTold (wordO (some i)) = some i := by
      have : i = 0 ∨ i = 1 ∨ i = 2 ∨ i = 3 ∨ i = 4 := by omega
      rcases this with rfl | rfl | rfl | rfl | rfl <;> decide +kernel
    refine ⟨key.1, ?_⟩
    unfold entW
    rw [if_neg key.2.1, key.2.2]
    exact if_neg (by omega)
theorem entsL_good {many : Int} (hm : many ≤ 5) : ∀ {r : List (Option Int)} {k : Nat}, (∀ (i : Nat) o, r[i]? = some o → entGood many ((k + i : Nat)) o) → entsL many k (r.map wordO) = some r
  | [], _, _ => rfl
  | o :: r, k, h => by
    have h0 := (word_facts hm (h 0 o rfl)).2
    have ih := entsL_good hm (r := r) (k := k + 1) fun i o ho => by
      have := h (i + 1) o (by simpa using ho)
      rwa [show k + (i + 1) = k + 1 + i by omega] at this
    simp only [List.map_cons, entsL]
    rw [show ((k + 0 : Nat) : Int) = (k : Int) by simp] at h0
    rw [h0, ih]
    rfl
theorem line_back {many : Int} (hm : 3 ≤ many ∧ many ≤ 5) {r : List (Option Int)} (h : rowGood many r) : entries many (Txt.split (line0 r) " ") = some r ∧ 10 ∉ tl (line0 r) := by
  have w1 : ∀ w ∈ r.map wordO, ∀ c ∈ tl w, 45 ≤ c ∧ c ≤ 52 := fun w hw => by
    obtain ⟨o, ho, rfl⟩ := List.mem_map.mp hw
    obtain ⟨i, hi⟩ := List.mem_iff_getElem?.mp ho
    exact (word_facts hm.2 (h.2 i o hi)).1
  have hne : r.map wordO ≠ [] := by
    intro e
    have := h.1
    have e2 : r = [] := by simpa using e
    subst e2
    simp at this
    omega
  constructor
  · have e : Txt.split (line0 r) " " = r.map wordO := split_join (y := " ") (s := 32) (S := []) rfl (by decide +kernel) hne fun p hp hc => by
      have := w1 p hp 32 hc
      omega
    rw [e]
    unfold entries
    rw [entsL_good hm.2 fun i o ho => by simpa using h.2 i o ho]
    simp [h.1]
  · intro hc
    unfold line0 at hc
    rw [join_eq, tl_join] at hc
    rcases joinL_elem hc with hc | ⟨p, hp, hc⟩
    · revert hc; decide
    · obtain ⟨w, hw, rfl⟩ := List.mem_map.mp hp
      have := w1 w hw 10 hc
      omega
theorem readL_back {many : Int} (hm : 3 ≤ many ∧ many ≤ 5) : ∀ {p : List (List (Option Int))} {k : Nat}, patGood many p → k + p.length ≤ 30 → readL many k (p.map line0) = .ok p
  | [], _, _, _ => rfl
  | r :: p, k, h, hk => by
    simp only [List.length_cons] at hk
    simp only [List.map_cons, readL, (line_back hm (h r (by simp))).1]
    rw [if_neg (by omega), readL_back hm (p := p) (k := k + 1) (fun q hq => h q (by simp [hq])) (by omega)]
theorem patText_eq (p : List (List (Option Int))) : patText p = Txt.join "\n" (p.map line0 ++ [("" : Str)]) := by
  rw [← join_feed, List.map_map]
  rfl
theorem readP_back {many : Int} (hm : 3 ≤ many ∧ many ≤ 5) {p : List (List (Option Int))} (h : patGood many p) (hl : p.length ≤ 30) : readP many (patText p) = .ok p := by
  have e : Txt.split (patText p) "\n" = p.map line0 ++ [("" : Str)] := by
    rw [patText_eq]
    refine split_join (y := "\n") (s := 10) (S := []) rfl (by decide +kernel) (by simp) fun q hq hc => ?_
    rcases List.mem_append.mp hq with hq | hq
    · obtain ⟨r, hr, rfl⟩ := List.mem_map.mp hq
      exact (line_back hm (h r hr)).2 hc
    · rw [List.mem_singleton.mp hq] at hc
      revert hc; decide
  unfold readP
  rw [e]
  simp [readL_back hm h (show 0 + p.length ≤ 30 by omega)]
/-! ### equal things are the same -/
def Tr (f : List D → M D) (d : D) : Prop := ∀ hs, Wp (f [d, d] hs) (okq fun v h => v = .bl true ∧ Gr [] hs h)
theorem Tr.use {f : List D → M D} {d : D} (h : Tr f d) (q : ∀ h, Gr [] hs h → Q (.ok (.bl true)) h) : Wp (f [d, d] hs) Q := (h hs).mono fun r h' z => by
  cases r with
  | error _ => exact z.elim
  | ok v =>
    obtain ⟨rfl, g⟩ := z
    exact q _ g
theorem isi_lt {d : D} {T : String} {c : Bool} {Q : D → Hs → Prop} (h1 : tyD hs d = some T) (h2 : kitBs T [.ty "list", .ty "tuple"] = some c) : Wp (isiD [d, .tup [.ty "list", .ty "tuple"]] hs) Q = Q (.bl c) hs := by
  unfold isiD
  simp only [h1, h2]
  rfl
section
variable {Q : D → Hs → Prop}
@[simp] theorem isi_lt_non : Wp (isiD [.non, .tup [.ty "list", .ty "tuple"]] hs) Q = Q (.bl false) hs := isi_lt (T := "NoneType") rfl (by decide +kernel)
@[simp] theorem isi_lt_bl {b : Bool} : Wp (isiD [.bl b, .tup [.ty "list", .ty "tuple"]] hs) Q = Q (.bl false) hs := isi_lt (T := "bool") rfl (by decide +kernel)
@[simp] theorem isi_lt_int {i : Int} : Wp (isiD [.int i, .tup [.ty "list", .ty "tuple"]] hs) Q = Q (.bl false) hs := isi_lt (T := "int") rfl (by decide +kernel)
@[simp] theorem isi_lt_str {x : Str} : Wp (isiD [.str x, .tup [.ty "list", .ty "tuple"]] hs) Q = Q (.bl false) hs := isi_lt (T := "str") rfl (by decide +kernel)
@[simp] theorem isi_lt_tup {xs : List D} : Wp (isiD [.tup xs, .tup [.ty "list", .ty "tuple"]] hs) Q = Q (.bl true) hs := isi_lt (T := "tuple") rfl (by decide +kernel)
end
variable {r : Nat → List D → M D} (hr : law_same_is r)
include hr
theorem same_o {k : Nat} (o : Option Int) : Tr (r (k + 1)) (encO o) := fun hs => by
  rw [hr k]
  unfold b__law_same
  cases o <;> simp [encO] <;> exact .refl
theorem same_s {k : Nat} (x : Str) : Tr (r (k + 1)) (.str x) := fun hs => by
  rw [hr k]
  unfold b__law_same
  simp
  exact .refl
omit hr in
theorem same_aux {f : List D → M D} {d : D} {xs : List D} {R : Int} (hR : (xs.length : Int) = R) (hl : xs.length ≤ 1000) (h : ∀ x ∈ xs, Tr f x)
    (e1 : ∀ {hs : Hs} {Q : D → Hs → Prop}, Wp (lenD [d] hs) Q = Q (.int R) hs) (e2 : ∀ {hs : Hs} {Q : D → Hs → Prop}, Wp (isiD [d, .tup [.ty "list", .ty "tuple"]] hs) Q = Q (.bl true) hs)
    (e3 : ∀ {hs : Hs} {Q : D → Hs → Prop}, Wp (isiD [d, .ty "list"] hs) Q = Q (.bl false) hs) (e4 : ∀ {hs : Hs} {Q : D → Hs → Prop}, Wp (isiD [d, .ty "tuple"] hs) Q = Q (.bl true) hs)
    (e5 : ∀ {hs : Hs} {Q : D → Hs → Prop} {i : Int} {x : D}, atI xs i = some x → Q x hs → Wp (ixD d (.int i) hs) Q) : Wp (runB 3 (b__law_same f) [d, d] hs) (okq fun v h => v = .bl true ∧ Gr [] hs h) := by
  unfold b__law_same
  simp [e1, e2, e3, e4]
  refine ⟨⟨by omega, by omega⟩, ?_⟩
  refine wp_comp (fun i acc h1 => Gr [] hs h1 ∧ acc = (List.replicate i true).map .bl) ⟨.refl, rfl⟩ ?_ ?_
  · rintro i y acc h1 hi ⟨g, rfl⟩
    obtain ⟨hi, rfl⟩ := intL_at hi
    have hlt : i < xs.length := by omega
    have ha : atI xs (i : Int) = some xs[i] := by
      have := atI_nat (xs := xs) (i := (i : Int)) (x := xs[i]) (by simp) (by omega)
      exact this
    refine ⟨trivial, ?_⟩
    simp
    refine e5 ha ?_
    refine e5 ha ?_
    refine Tr.use (h _ (List.getElem_mem hlt)) fun h2 g2 => ?_
    simp
    exact ⟨small1000 (by omega), g.trans g2, by rw [List.replicate_succ']⟩
  · rintro acc h1 ⟨g, rfl⟩
    refine ⟨trivial, _, flags_bl _, ?_, g.trans .push⟩
    simp
theorem same_t {k : Nat} {xs : List D} (hl : xs.length ≤ 1000) (h : ∀ x ∈ xs, Tr (r k) x) : Tr (r (k + 1)) (.tup xs) := fun hs => by
  rw [hr k]
  obtain ⟨R, hR⟩ : ∃ R : Int, (xs.length : Int) = R := ⟨_, rfl⟩
  exact same_aux hR hl h (len_tup_nr hR) isi_lt_tup isi_tup_list isi_tup_tuple (fun ha hq => by rw [wp_ix_tup]; exact ⟨_, ha, hq⟩)
theorem same_r {k : Nat} {l : List (Option Int)} (hl : l.length ≤ 1000) : Tr (r (k + 2)) (encR l) := same_t hr (by simpa using hl) fun x hx => by
  obtain ⟨o, _, rfl⟩ := List.mem_map.mp hx
  exact same_o hr o
theorem same_p {k : Nat} {l : List (List (Option Int))} (hl : l.length ≤ 1000) (h : ∀ r ∈ l, r.length ≤ 1000) : Tr (r (k + 3)) (encP l) := same_t hr (by simpa using hl) fun x hx => by
  obtain ⟨o, ho, rfl⟩ := List.mem_map.mp hx
  exact same_r hr (h o ho)
end
end DL.Deck
set_option Elab.async false
set_option linter.all false
set_option maxRecDepth 100000
set_option maxHeartbeats 4000000
namespace DL.K50
open PySem PySem.Spec PyProof.Rows L2 DL

/-! ## the text, by places -/
def top (i : Nat) : Stmt := PySem.Challenge.pw_onesilent_k50_sparing_patterns_judged.main.body.getD i (.Pass ⟨0, 0, 0, 0⟩)
/-! _law_pot -/
abbrev s__law_pot : Stmt := top 21
noncomputable def g__law_pot : List (Str × GI) := [("abs", .bi), ("int", .bi), ("len", .bi)]
noncomputable def c__law_pot : SC := { N := ["_law_script", "_law_cells", "_law_cell"], sc := defScope s__law_pot, fnc := fun _ => true, G := fun y => g__law_pot.lookup y }
theorem eq__law_pot : evB c__law_pot (defBody s__law_pot) = b__law_pot := by rfl
/-! _law_draw -/
abbrev s__law_draw : Stmt := top 22
noncomputable def g__law_draw : List (Str × GI) := [("len", .bi), ("int", .bi)]
noncomputable def c__law_draw : SC := { N := ["_law_pot_here", "_law_many", "_law_cell", "_law_digit", "_law_number"], sc := defScope s__law_draw, fnc := fun _ => true, G := fun y => g__law_draw.lookup y }
theorem eq__law_draw : evB c__law_draw (defBody s__law_draw) = b__law_draw := by rfl
/-! _law_any -/
abbrev s__law_any : Stmt := top 23
noncomputable def g__law_any : List (Str × GI) := [("_law_draw", .fn 2 r__law_draw), ("len", .bi)]
noncomputable def c__law_any : SC := { N := ["_law_pot_here", "_law_things"], sc := defScope s__law_any, fnc := fun _ => true, G := fun y => g__law_any.lookup y }
theorem eq__law_any : evB c__law_any (defBody s__law_any) = b__law_any := by rfl
/-! _law_entry -/
abbrev s__law_entry : Stmt := top 26
noncomputable def g__law_entry : List (Str × GI) := [("len", .bi), ("_law_draw", .fn 2 r__law_draw), ("_law_any", .fn 2 r__law_any)]
noncomputable def c__law_entry : SC := { N := ["_law_pot_here", "_law_many", "_law_me", "_law_some_here", "_law_others", "_law_machine"], sc := defScope s__law_entry, fnc := fun _ => true, G := fun y => g__law_entry.lookup y }
noncomputable def b__law_entry : Ev → S := (seqS (asgS (.one 4) (compM [5] (.one 5) (seqM (varD 3)) (andM (asTest (op2 (cmpD .Lt) (varD 5) (varD 1))) (asTest (op2 (cmpD .NotEq) (varD 5) (varD 2)))) (varD 5)))
  (seqS (retS (ifV (orM (asTest (op2 (cmpD .Eq) (callM lenD (consM (varD 4) (fun _ => M.pure []))) (fun _ => M.pure (.int 0)))) (asTest (op2 (cmpD .Eq) (callF 2 r__law_draw (consM (varD 0) (consM (fun _ => M.pure (.int 2)) (fun _ => M.pure [])))) (fun _ => M.pure (.int 0))))) (fun _ => M.pure .non) (callF 2 r__law_any (consM (varD 0) (consM (varD 4) (fun _ => M.pure []))))))
  nextS))
noncomputable def r__law_entry : List D → M D := runB 6 b__law_entry
theorem eq__law_entry : evB c__law_entry (defBody s__law_entry) = b__law_entry := by rfl
/-! _law_pattern -/
abbrev s__law_pattern : Stmt := top 27
noncomputable def g__law_pattern : List (Str × GI) := [("range", .bi), ("tuple", .bi), ("_law_entry", .fn 4 r__law_entry)]
noncomputable def c__law_pattern : SC := { N := ["_law_pot_here", "_law_many", "_law_rounds", "_law_some_here", "_law_found", "_law_r", "_law_me"], sc := defScope s__law_pattern, fnc := fun _ => true, G := fun y => g__law_pattern.lookup y }
noncomputable def b__law_pattern : Ev → S := (seqS (asgS (.one 4) (lstM (fun _ => M.pure [])))
  (seqS (loopS (.one 5) (rngM 1 (consM (varD 2) (fun _ => M.pure [])))
  (seqS (dropS (methM "list" appendD (varD 4) (consM (callM tupleD (consM (compM [6] (.one 6) (rngM 1 (consM (varD 1) (fun _ => M.pure []))) (fun _ => M.pure true) (callF 4 r__law_entry (consM (varD 0) (consM (varD 1) (consM (varD 6) (consM (varD 3) (fun _ => M.pure []))))))) (fun _ => M.pure []))) (fun _ => M.pure []))))
  nextS))
  (seqS (retS (callM tupleD (consM (varD 4) (fun _ => M.pure []))))
  nextS)))
noncomputable def r__law_pattern : List D → M D := runB 7 b__law_pattern
theorem eq__law_pattern : evB c__law_pattern (defBody s__law_pattern) = b__law_pattern := by rfl
/-! _law_some -/
abbrev s__law_some : Stmt := top 25
noncomputable def g__law_some : List (Str × GI) := [("tuple", .bi), ("range", .bi), ("_law_draw", .fn 2 r__law_draw)]
noncomputable def c__law_some : SC := { N := ["_law_pot_here", "_law_machine"], sc := defScope s__law_some, fnc := fun _ => true, G := fun y => g__law_some.lookup y }
noncomputable def b__law_some : Ev → S := (seqS (retS (callM tupleD (consM (compM [1] (.one 1) (rngM 1 (consM (fun _ => M.pure (.int 5)) (fun _ => M.pure []))) (asTest (op2 (cmpD .Eq) (callF 2 r__law_draw (consM (varD 0) (consM (fun _ => M.pure (.int 2)) (fun _ => M.pure [])))) (fun _ => M.pure (.int 0)))) (varD 1)) (fun _ => M.pure []))))
  nextS)
noncomputable def r__law_some : List D → M D := runB 2 b__law_some
theorem eq__law_some : evB c__law_some (defBody s__law_some) = b__law_some := by rfl
/-! _law_deep -/
abbrev s__law_deep : Stmt := top 24
noncomputable def g__law_deep : List (Str × GI) := [("_law_any", .fn 2 r__law_any), ("range", .bi), ("_law_draw", .fn 2 r__law_draw)]
noncomputable def c__law_deep : SC := { N := ["_law_pot_here", "_law_found", "_law_turn"], sc := defScope s__law_deep, fnc := fun _ => true, G := fun y => g__law_deep.lookup y }
noncomputable def b__law_deep : Ev → S := (seqS (asgS (.one 1) (callF 2 r__law_any (consM (varD 0) (consM (lstM (consM (tupM (fun _ => M.pure [])) (consM (fun _ => M.pure (.int 0)) (consM (fun _ => M.pure .non) (consM (fun _ => M.pure (.str "a")) (fun _ => M.pure [])))))) (fun _ => M.pure [])))))
  (seqS (loopS (.one 2) (rngM 1 (consM (op2 (binD .Add) (fun _ => M.pure (.int 1)) (callF 2 r__law_draw (consM (varD 0) (consM (fun _ => M.pure (.int 25)) (fun _ => M.pure []))))) (fun _ => M.pure [])))
  (seqS (asgS (.one 1) (op2 ixD (lstM (consM (tupM (consM (varD 1) (fun _ => M.pure []))) (consM (lstM (consM (varD 1) (fun _ => M.pure []))) (consM (dispM [.inr "a"] (consM (varD 1) (fun _ => M.pure []))) (fun _ => M.pure []))))) (callF 2 r__law_draw (consM (varD 0) (consM (fun _ => M.pure (.int 3)) (fun _ => M.pure []))))))
  nextS))
  (seqS (retS (varD 1))
  nextS)))
noncomputable def r__law_deep : List D → M D := runB 3 b__law_deep
theorem eq__law_deep : evB c__law_deep (defBody s__law_deep) = b__law_deep := by rfl
/-! _law_bent -/
abbrev s__law_bent : Stmt := top 28
noncomputable def g__law_bent : List (Str × GI) := [("len", .bi), ("list", .bi), ("_law_any", .fn 2 r__law_any), ("_law_draw", .fn 2 r__law_draw), ("int", .bi), ("_law_deep", .fn 1 r__law_deep), ("tuple", .bi)]
noncomputable def c__law_bent : SC := { N := ["_law_pot_here", "_law_many", "_law_pattern_here", "_law_more", "_law_things", "_law_r", "_law_me", "_law_row", "_law_kind", "_law_other", "_law_longer"], sc := defScope s__law_bent, fnc := fun _ => true, G := fun y => g__law_bent.lookup y }
noncomputable def b__law_bent : Ev → S := (seqS (ifS (asTest (op2 (cmpD .Eq) (callM lenD (consM (varD 2) (fun _ => M.pure []))) (fun _ => M.pure (.int 0))))
  (seqS (asgS (.one 3) (op2 (binD .Mult) (tupM (consM (fun _ => M.pure .non) (fun _ => M.pure []))) (varD 1)))
  (seqS (asgS (.one 4) (lstM (consM (lstM (fun _ => M.pure [])) (consM (fun _ => M.pure .non) (consM (fun _ => M.pure (.str "")) (consM (fun _ => M.pure (.int 0)) (consM nilDict (consM (tupM (consM (tupM (fun _ => M.pure [])) (fun _ => M.pure []))) (consM (tupM (consM (fun _ => M.pure .non) (fun _ => M.pure []))) (consM (tupM (consM (sliceM (varD 3) (fun _ => M.pure none) (fun v => M.bind ((fun _ => M.pure (.int 2)) v) partD)) (fun _ => M.pure []))) (consM (tupM (consM (varD 3) (consM (varD 3) (fun _ => M.pure [])))) (consM (tupM (consM (callM listD (consM (varD 3) (fun _ => M.pure []))) (fun _ => M.pure []))) (consM (tupM (consM (tupM (consM (varD 3) (fun _ => M.pure []))) (fun _ => M.pure []))) (fun _ => M.pure []))))))))))))))
  (seqS (retS (callF 2 r__law_any (consM (varD 0) (consM (varD 4) (fun _ => M.pure [])))))
  nextS)))
  nextS)
  (seqS (asgS (.many [5, 6]) (tupM (consM (callF 2 r__law_draw (consM (varD 0) (consM (callM lenD (consM (varD 2) (fun _ => M.pure []))) (fun _ => M.pure [])))) (consM (callF 2 r__law_draw (consM (varD 0) (consM (varD 1) (fun _ => M.pure [])))) (fun _ => M.pure [])))))
  (seqS (asgS (.many [7, 8]) (tupM (consM (callM listD (consM (op2 ixD (varD 2) (varD 5)) (fun _ => M.pure []))) (consM (callF 2 r__law_draw (consM (varD 0) (consM (fun _ => M.pure (.int 9)) (fun _ => M.pure [])))) (fun _ => M.pure [])))))
  (seqS (ifS (asTest (op2 (cmpD .Lt) (varD 8) (fun _ => M.pure (.int 4))))
  (seqS (setS (op2 (binD .Mod) (callM intD (consM (op2 (binD .Add) (op2 (binD .Add) (varD 6) (fun _ => M.pure (.int 1))) (callF 2 r__law_draw (consM (varD 0) (consM (op2 (binD .Sub) (varD 1) (fun _ => M.pure (.int 1))) (fun _ => M.pure []))))) (fun _ => M.pure []))) (varD 1)) (varD 7) (varD 6))
  nextS)
  (seqS (ifS (asTest (op2 (cmpD .Eq) (varD 8) (fun _ => M.pure (.int 4))))
  (seqS (setS (callF 2 r__law_any (consM (varD 0) (consM (lstM (consM (varD 6) (consM (varD 1) (consM (fun _ => M.pure (.int 7)) (consM (negV (fun _ => M.pure (.int 1))) (consM (fun _ => M.pure (.bl true)) (consM (fun _ => M.pure (.bl false)) (consM (fun _ => M.pure (.str "0")) (consM (tupM (consM (fun _ => M.pure (.int 0)) (fun _ => M.pure []))) (consM (lstM (consM (fun _ => M.pure (.int 0)) (fun _ => M.pure []))) (consM nilDict (consM (op2 (binD .Pow) (fun _ => M.pure (.int 10)) (fun _ => M.pure (.int 50))) (consM (callF 1 r__law_deep (consM (varD 0) (fun _ => M.pure []))) (fun _ => M.pure [])))))))))))))) (fun _ => M.pure [])))) (varD 7) (varD 6))
  nextS)
  (seqS (ifS (asTest (op2 (cmpD .Eq) (varD 8) (fun _ => M.pure (.int 5))))
  (seqS (asgS (.one 9) (callF 2 r__law_any (consM (varD 0) (consM (lstM (consM (callM tupleD (consM (sliceM (varD 7) (fun v => M.bind ((fun _ => M.pure (.int 1)) v) partD) (fun _ => M.pure none)) (fun _ => M.pure []))) (consM (op2 (binD .Add) (callM tupleD (consM (varD 7) (fun _ => M.pure []))) (tupM (consM (fun _ => M.pure .non) (fun _ => M.pure [])))) (consM (callM listD (consM (varD 7) (fun _ => M.pure []))) (consM (fun _ => M.pure .non) (consM (tupM (fun _ => M.pure [])) (consM (op2 (binD .Mult) (callM tupleD (consM (varD 7) (fun _ => M.pure []))) (fun _ => M.pure (.int 2))) (consM (fun _ => M.pure (.str "abc")) (fun _ => M.pure []))))))))) (fun _ => M.pure [])))))
  (seqS (retS (op2 (binD .Add) (op2 (binD .Add) (sliceM (varD 2) (fun _ => M.pure none) (fun v => M.bind ((varD 5) v) partD)) (tupM (consM (varD 9) (fun _ => M.pure [])))) (sliceM (varD 2) (fun v => M.bind ((op2 (binD .Add) (varD 5) (fun _ => M.pure (.int 1))) v) partD) (fun _ => M.pure none))))
  nextS))
  (seqS (ifS (asTest (op2 (cmpD .Eq) (varD 8) (fun _ => M.pure (.int 6))))
  (seqS (asgS (.one 10) (op2 (binD .Add) (varD 2) (tupM (consM (op2 (binD .Mult) (tupM (consM (fun _ => M.pure .non) (fun _ => M.pure []))) (op2 (binD .Add) (varD 1) (fun _ => M.pure (.int 1)))) (fun _ => M.pure [])))))
  (seqS (retS (callF 2 r__law_any (consM (varD 0) (consM (lstM (consM (callM listD (consM (varD 2) (fun _ => M.pure []))) (consM (op2 (binD .Add) (varD 2) (tupM (consM (fun _ => M.pure .non) (fun _ => M.pure [])))) (consM (varD 10) (consM (tupM (consM (varD 2) (fun _ => M.pure []))) (consM (op2 ixD (varD 2) (fun _ => M.pure (.int 0))) (fun _ => M.pure []))))))) (fun _ => M.pure [])))))
  nextS))
  (seqS (ifS (asTest (op2 (cmpD .Eq) (varD 8) (fun _ => M.pure (.int 7))))
  (seqS (retS (sliceM (op2 (binD .Mult) (varD 2) (fun _ => M.pure (.int 31))) (fun _ => M.pure none) (fun v => M.bind ((op2 (binD .Add) (fun _ => M.pure (.int 30)) (callF 2 r__law_draw (consM (varD 0) (consM (fun _ => M.pure (.int 2)) (fun _ => M.pure []))))) v) partD)))
  nextS)
  (seqS (retS (op2 (binD .Add) (revM (varD 2)) (sliceM (varD 2) (fun _ => M.pure none) (fun v => M.bind ((fun _ => M.pure (.int 1)) v) partD))))
  nextS))
  nextS))
  nextS))
  nextS))
  nextS))
  (seqS (retS (op2 (binD .Add) (op2 (binD .Add) (sliceM (varD 2) (fun _ => M.pure none) (fun v => M.bind ((varD 5) v) partD)) (tupM (consM (callM tupleD (consM (varD 7) (fun _ => M.pure []))) (fun _ => M.pure [])))) (sliceM (varD 2) (fun v => M.bind ((op2 (binD .Add) (varD 5) (fun _ => M.pure (.int 1))) v) partD) (fun _ => M.pure none))))
  nextS)))))
noncomputable def r__law_bent : List D → M D := runB 11 b__law_bent
theorem eq__law_bent : evB c__law_bent (defBody s__law_bent) = b__law_bent := by rfl
/-! _law_is_int -/
abbrev s__law_is_int : Stmt := top 29
noncomputable def g__law_is_int : List (Str × GI) := [("isinstance", .bi), ("int", .bi), ("bool", .bi)]
noncomputable def c__law_is_int : SC := { N := ["_law_thing", "_law_least", "_law_most"], sc := defScope s__law_is_int, fnc := fun _ => true, G := fun y => g__law_is_int.lookup y }
noncomputable def b__law_is_int : Ev → S := (seqS (retS (andV (callM isiD (consM (varD 0) (consM (fun _ => M.pure (.ty "int")) (fun _ => M.pure [])))) (andV (notV (callM isiD (consM (varD 0) (consM (fun _ => M.pure (.ty "bool")) (fun _ => M.pure []))))) (op3 (cmpD .LtE) (cmpD .LtE) (varD 1) (varD 0) (varD 2)))))
  nextS)
noncomputable def r__law_is_int : List D → M D := runB 3 b__law_is_int
theorem eq__law_is_int : evB c__law_is_int (defBody s__law_is_int) = b__law_is_int := by rfl
/-! _law_is_lot -/
abbrev s__law_is_lot : Stmt := top 30
noncomputable def g__law_is_lot : List (Str × GI) := [("isinstance", .bi), ("tuple", .bi), ("all", .bi), ("_law_is_int", .fn 3 r__law_is_int), ("zip", .bi)]
noncomputable def c__law_is_lot : SC := { N := ["_law_thing", "_law_item", "_law_one", "_law_other"], sc := defScope s__law_is_lot, fnc := fun _ => true, G := fun y => g__law_is_lot.lookup y }
noncomputable def b__law_is_lot : Ev → S := (seqS (ifS (orM (notM (truth (callM isiD (consM (varD 0) (consM (fun _ => M.pure (.ty "tuple")) (fun _ => M.pure [])))))) (notM (truth (callM allD (consM (compM [1] (.one 1) (seqM (varD 0)) (fun _ => M.pure true) (callF 3 r__law_is_int (consM (varD 1) (consM (fun _ => M.pure (.int 0)) (consM (fun _ => M.pure (.int 4)) (fun _ => M.pure [])))))) (fun _ => M.pure []))))))
  (seqS (retS (fun _ => M.pure (.bl false)))
  nextS)
  nextS)
  (seqS (retS (callM allD (consM (compM [2, 3] (.many [2, 3]) (fun e => M.bind ((consM (varD 0) (consM (sliceM (varD 0) (fun v => M.bind ((fun _ => M.pure (.int 1)) v) partD) (fun _ => M.pure none)) (fun _ => M.pure []))) e) zipSrc) (fun _ => M.pure true) (op2 (cmpD .Lt) (varD 2) (varD 3))) (fun _ => M.pure []))))
  nextS))
noncomputable def r__law_is_lot : List D → M D := runB 4 b__law_is_lot
theorem eq__law_is_lot : evB c__law_is_lot (defBody s__law_is_lot) = b__law_is_lot := by rfl
/-! are_rising -/
abbrev s_are_rising : Stmt := top 6
noncomputable def g_are_rising : List (Str × GI) := [("all", .bi), ("zip", .bi)]
noncomputable def c_are_rising : SC := { N := ["things", "one", "other"], sc := defScope s_are_rising, fnc := fun _ => true, G := fun y => g_are_rising.lookup y }
noncomputable def b_are_rising : Ev → S := (seqS (retS (callM allD (consM (compM [1, 2] (.many [1, 2]) (fun e => M.bind ((consM (varD 0) (consM (sliceM (varD 0) (fun v => M.bind ((fun _ => M.pure (.int 1)) v) partD) (fun _ => M.pure none)) (fun _ => M.pure []))) e) zipSrc) (fun _ => M.pure true) (op2 (cmpD .Lt) (varD 1) (varD 2))) (fun _ => M.pure []))))
  nextS)
noncomputable def r_are_rising : List D → M D := runB 3 b_are_rising
theorem eq_are_rising : evB c_are_rising (defBody s_are_rising) = b_are_rising := by rfl
/-! is_integer -/
abbrev s_is_integer : Stmt := top 3
noncomputable def g_is_integer : List (Str × GI) := [("isinstance", .bi), ("int", .bi), ("bool", .bi)]
noncomputable def c_is_integer : SC := { N := ["thing"], sc := defScope s_is_integer, fnc := fun _ => true, G := fun y => g_is_integer.lookup y }
theorem eq_is_integer : evB c_is_integer (defBody s_is_integer) = b_is_integer := by rfl
/-! is_within -/
abbrev s_is_within : Stmt := top 4
noncomputable def g_is_within : List (Str × GI) := [("is_integer", .fn 1 r_is_integer)]
noncomputable def c_is_within : SC := { N := ["thing", "least", "most"], sc := defScope s_is_within, fnc := fun _ => true, G := fun y => g_is_within.lookup y }
theorem eq_is_within : evB c_is_within (defBody s_is_within) = b_is_within := by rfl
/-! is_lot_below -/
abbrev s_is_lot_below : Stmt := top 7
noncomputable def g_is_lot_below : List (Str × GI) := [("isinstance", .bi), ("tuple", .bi), ("all", .bi), ("is_within", .fn 3 r_is_within), ("are_rising", .fn 1 r_are_rising)]
noncomputable def c_is_lot_below : SC := { N := ["thing", "many", "item"], sc := defScope s_is_lot_below, fnc := fun _ => true, G := fun y => g_is_lot_below.lookup y }
noncomputable def b_is_lot_below : Ev → S := (seqS (retS (andV (callM isiD (consM (varD 0) (consM (fun _ => M.pure (.ty "tuple")) (fun _ => M.pure [])))) (andV (callM allD (consM (compM [2] (.one 2) (seqM (varD 0)) (fun _ => M.pure true) (callF 3 r_is_within (consM (varD 2) (consM (fun _ => M.pure (.int 0)) (consM (op2 (binD .Sub) (varD 1) (fun _ => M.pure (.int 1))) (fun _ => M.pure [])))))) (fun _ => M.pure []))) (callF 1 r_are_rising (consM (varD 0) (fun _ => M.pure []))))))
  nextS)
noncomputable def r_is_lot_below : List D → M D := runB 3 b_is_lot_below
theorem eq_is_lot_below : evB c_is_lot_below (defBody s_is_lot_below) = b_is_lot_below := by rfl
/-! is_sized -/
abbrev s_is_sized : Stmt := top 5
noncomputable def g_is_sized : List (Str × GI) := [("isinstance", .bi), ("tuple", .bi), ("len", .bi)]
noncomputable def c_is_sized : SC := { N := ["thing", "least", "most"], sc := defScope s_is_sized, fnc := fun _ => true, G := fun y => g_is_sized.lookup y }
theorem eq_is_sized : evB c_is_sized (defBody s_is_sized) = b_is_sized := by rfl
/-! is_miss -/
abbrev s_is_miss : Stmt := top 15
noncomputable def g_is_miss : List (Str × GI) := [("is_within", .fn 3 r_is_within)]
noncomputable def c_is_miss : SC := { N := ["many", "me", "thing"], sc := defScope s_is_miss, fnc := fun _ => true, G := fun y => g_is_miss.lookup y }
theorem eq_is_miss : evB c_is_miss (defBody s_is_miss) = b_is_miss := by rfl
/-! is_round -/
abbrev s_is_round : Stmt := top 16
noncomputable def g_is_round : List (Str × GI) := [("is_sized", .fn 3 r_is_sized), ("all", .bi), ("enumerate", .bi), ("is_miss", .fn 3 r_is_miss)]
noncomputable def c_is_round : SC := { N := ["many", "thing", "me", "missed"], sc := defScope s_is_round, fnc := fun _ => true, G := fun y => g_is_round.lookup y }
theorem eq_is_round : evB c_is_round (defBody s_is_round) = b_is_round := by rfl
/-! is_pattern_of -/
abbrev s_is_pattern_of : Stmt := top 17
noncomputable def g_is_pattern_of : List (Str × GI) := [("MOST_ROUNDS", .val (.int 30)), ("is_sized", .fn 3 r_is_sized), ("all", .bi), ("is_round", .fn 2 r_is_round)]
noncomputable def c_is_pattern_of : SC := { N := ["many", "rounds", "thing", "least", "most", "item"], sc := defScope s_is_pattern_of, fnc := fun _ => true, G := fun y => g_is_pattern_of.lookup y }
theorem eq_is_pattern_of : evB c_is_pattern_of (defBody s_is_pattern_of) = b_is_pattern_of := by rfl
/-! is_sparing -/
abbrev s_is_sparing : Stmt := top 19
noncomputable def g_is_sparing : List (Str × GI) := [("is_lot_below", .fn 2 r_is_lot_below), ("MOST_MANY", .val (.int 5)), ("NoLot", .err none), ("isinstance", .bi), ("tuple", .bi), ("is_sized", .fn 3 r_is_sized), ("LEAST_MANY", .val (.int 3)), ("is_pattern_of", .fn 3 r_is_pattern_of), ("len", .bi), ("all", .bi)]
noncomputable def c_is_sparing : SC := { N := ["some", "thing", "row", "missed"], sc := defScope s_is_sparing, fnc := fun _ => true, G := fun y => g_is_sparing.lookup y }
noncomputable def b_is_sparing : Ev → S := (seqS (ifS (notM (truth (callF 2 r_is_lot_below (consM (varD 0) (consM (fun _ => M.pure (.int 5)) (fun _ => M.pure []))))))
  (seqS (raise0 "NoLot")
  nextS)
  nextS)
  (seqS (ifS (asTest (op2 (cmpD .Eq) (varD 1) (tupM (fun _ => M.pure []))))
  (seqS (retS (fun _ => M.pure (.bl true)))
  nextS)
  nextS)
  (seqS (ifS (orM (notM (truth (callM isiD (consM (varD 1) (consM (fun _ => M.pure (.ty "tuple")) (fun _ => M.pure [])))))) (notM (truth (callF 3 r_is_sized (consM (op2 ixD (varD 1) (fun _ => M.pure (.int 0))) (consM (fun _ => M.pure (.int 3)) (consM (fun _ => M.pure (.int 5)) (fun _ => M.pure []))))))))
  (seqS (retS (fun _ => M.pure (.bl false)))
  nextS)
  nextS)
  (seqS (ifS (notM (truth (callF 3 r_is_pattern_of (consM (callM lenD (consM (op2 ixD (varD 1) (fun _ => M.pure (.int 0))) (fun _ => M.pure []))) (consM (fun _ => M.pure .non) (consM (varD 1) (fun _ => M.pure [])))))))
  (seqS (retS (fun _ => M.pure (.bl false)))
  nextS)
  nextS)
  (seqS (retS (callM allD (consM (comp2M [2, 3] [3] (.one 2) (seqM (varD 1)) (fun _ => M.pure true) (.one 3) (seqM (varD 2)) (fun _ => M.pure true) (orV (op2 (cmpD .Is) (varD 3) (fun _ => M.pure .non)) (op2 (cmpD .In) (varD 3) (varD 0)))) (fun _ => M.pure []))))
  nextS)))))
noncomputable def r_is_sparing : List D → M D := runB 4 b_is_sparing
theorem eq_is_sparing : evB c_is_sparing (defBody s_is_sparing) = b_is_sparing := by rfl
/-! _law_told -/
abbrev s__law_told : Stmt := top 33
noncomputable def g__law_told : List (Str × GI) := [("is_sparing", .fn 2 r_is_sparing), ("SilentError", .base), ("NoLot", .err none), ("isinstance", .bi), ("NoMachine", .err none), ("NoPattern", .err none), ("ValueError", .bi)]
noncomputable def c__law_told : SC := { N := ["_law_some_here", "_law_thing", "e"], sc := defScope s__law_told, fnc := fun _ => true, G := fun y => g__law_told.lookup y }
noncomputable def b__law_told : Ev → S := (seqS (tryS (seqS (retS (tupM (consM (fun _ => M.pure (.str "let")) (consM (callF 2 r_is_sparing (consM (varD 0) (consM (varD 1) (fun _ => M.pure [])))) (fun _ => M.pure [])))))
  nextS)
  (fun x => (hdM (decide (x.cls = "NoLot")) (some 2) x (fun t => (seqS (retS (tupM (consM (ifV (andM (notM (truth (isiHot (c__law_told.at t) (consM (varD 2) (consM (tupM (consM (fun _ => M.pure (.glo "NoMachine")) (consM (fun _ => M.pure (.glo "NoPattern")) (fun _ => M.pure [])))) (fun _ => M.pure [])))))) (truth (isiHot (c__law_told.at t) (consM (varD 2) (consM (fun _ => M.pure (.ty "ValueError")) (fun _ => M.pure [])))))) (fun _ => M.pure (.str "lot")) (fun _ => M.pure (.str "other"))) (consM (fun _ => M.pure .non) (fun _ => M.pure [])))))
  nextS)) (hdM true none x (fun t => (seqS (retS (tupM (consM (fun _ => M.pure (.str "other")) (consM (fun _ => M.pure .non) (fun _ => M.pure [])))))
  nextS)) (fun e hs => some (.exc x e, hs))))))
  nextS)
noncomputable def r__law_told : List D → M D := runB 3 b__law_told
theorem eq__law_told : evB c__law_told (defBody s__law_told) = b__law_told := by rfl
/-! _law_is_row -/
abbrev s__law_is_row : Stmt := top 31
noncomputable def g__law_is_row : List (Str × GI) := [("isinstance", .bi), ("tuple", .bi), ("len", .bi), ("range", .bi), ("_law_is_int", .fn 3 r__law_is_int), ("all", .bi)]
noncomputable def c__law_is_row : SC := { N := ["_law_thing", "_law_many", "_law_some_here", "_law_me", "_law_missed"], sc := defScope s__law_is_row, fnc := fun _ => true, G := fun y => g__law_is_row.lookup y }
noncomputable def b__law_is_row : Ev → S := (seqS (ifS (orM (notM (truth (callM isiD (consM (varD 0) (consM (fun _ => M.pure (.ty "tuple")) (fun _ => M.pure [])))))) (asTest (op2 (cmpD .NotEq) (callM lenD (consM (varD 0) (fun _ => M.pure []))) (varD 1))))
  (seqS (retS (fun _ => M.pure (.bl false)))
  nextS)
  nextS)
  (seqS (loopS (.one 3) (rngM 1 (consM (varD 1) (fun _ => M.pure [])))
  (seqS (ifS (andM (asTest (op2 (cmpD .IsNot) (op2 ixD (varD 0) (varD 3)) (fun _ => M.pure .non))) (orM (notM (truth (callF 3 r__law_is_int (consM (op2 ixD (varD 0) (varD 3)) (consM (fun _ => M.pure (.int 0)) (consM (op2 (binD .Sub) (varD 1) (fun _ => M.pure (.int 1))) (fun _ => M.pure []))))))) (asTest (op2 (cmpD .Eq) (op2 ixD (varD 0) (varD 3)) (varD 3)))))
  (seqS (retS (fun _ => M.pure (.bl false)))
  nextS)
  nextS)
  nextS))
  (seqS (retS (callM allD (consM (compM [4] (.one 4) (seqM (varD 0)) (fun _ => M.pure true) (orV (op2 (cmpD .Is) (varD 4) (fun _ => M.pure .non)) (op2 (cmpD .In) (varD 4) (varD 2)))) (fun _ => M.pure []))))
  nextS)))
noncomputable def r__law_is_row : List D → M D := runB 5 b__law_is_row
theorem eq__law_is_row : evB c__law_is_row (defBody s__law_is_row) = b__law_is_row := by rfl
/-! _law_is_sparing -/
abbrev s__law_is_sparing : Stmt := top 32
noncomputable def g__law_is_sparing : List (Str × GI) := [("isinstance", .bi), ("tuple", .bi), ("len", .bi), ("all", .bi), ("_law_is_row", .fn 3 r__law_is_row)]
noncomputable def c__law_is_sparing : SC := { N := ["_law_some_here", "_law_thing", "_law_many", "_law_row"], sc := defScope s__law_is_sparing, fnc := fun _ => true, G := fun y => g__law_is_sparing.lookup y }
noncomputable def b__law_is_sparing : Ev → S := (seqS (ifS (orM (notM (truth (callM isiD (consM (varD 1) (consM (fun _ => M.pure (.ty "tuple")) (fun _ => M.pure [])))))) (asTest (op2 (cmpD .Gt) (callM lenD (consM (varD 1) (fun _ => M.pure []))) (fun _ => M.pure (.int 30)))))
  (seqS (retS (fun _ => M.pure (.bl false)))
  nextS)
  nextS)
  (seqS (loopS (.one 2) (seqM (lstM (consM (fun _ => M.pure (.int 3)) (consM (fun _ => M.pure (.int 4)) (consM (fun _ => M.pure (.int 5)) (fun _ => M.pure []))))))
  (seqS (ifS (truth (callM allD (consM (compM [3] (.one 3) (seqM (varD 1)) (fun _ => M.pure true) (callF 3 r__law_is_row (consM (varD 3) (consM (varD 2) (consM (varD 0) (fun _ => M.pure [])))))) (fun _ => M.pure []))))
  (seqS (retS (fun _ => M.pure (.bl true)))
  nextS)
  nextS)
  nextS))
  (seqS (retS (fun _ => M.pure (.bl false)))
  nextS)))
noncomputable def r__law_is_sparing : List D → M D := runB 4 b__law_is_sparing
theorem eq__law_is_sparing : evB c__law_is_sparing (defBody s__law_is_sparing) = b__law_is_sparing := by rfl
/-! law -/
abbrev s_law : Stmt := top 34
noncomputable def g_law : List (Str × GI) := [("_law_pot", .fn 1 r__law_pot), ("range", .bi), ("_law_draw", .fn 2 r__law_draw), ("_law_any", .fn 2 r__law_any), ("_law_some", .fn 1 r__law_some), ("_law_pattern", .fn 4 r__law_pattern), ("repr", .bi), ("_law_told", .fn 2 r__law_told), ("_law_bent", .fn 3 r__law_bent), ("_law_is_sparing", .fn 2 r__law_is_sparing), ("list", .bi), ("_law_deep", .fn 1 r__law_deep), ("_law_is_lot", .fn 1 r__law_is_lot)]
noncomputable def c_law : SC := { N := ["_law_script", "_law_pot_here", "_law_turn", "_law_many", "_law_rounds", "_law_some_here", "_law_thing", "_law_again", "_law_bent_here", "_law_odd", "_law_due"], sc := defScope s_law, fnc := fun _ => true, G := fun y => g_law.lookup y }
noncomputable def b_law : Ev → S := (seqS (asgS (.one 1) (callF 1 r__law_pot (consM (varD 0) (fun _ => M.pure []))))
  (seqS (loopS (.one 2) (rngM 1 (consM (fun _ => M.pure (.int 10)) (fun _ => M.pure [])))
  (seqS (asgS (.many [3, 4, 5]) (tupM (consM (op2 (binD .Add) (fun _ => M.pure (.int 3)) (callF 2 r__law_draw (consM (varD 1) (consM (fun _ => M.pure (.int 3)) (fun _ => M.pure []))))) (consM (callF 2 r__law_any (consM (varD 1) (consM (lstM (consM (fun _ => M.pure (.int 0)) (consM (fun _ => M.pure (.int 1)) (consM (fun _ => M.pure (.int 2)) (consM (fun _ => M.pure (.int 2)) (consM (fun _ => M.pure (.int 5)) (consM (fun _ => M.pure (.int 30)) (fun _ => M.pure [])))))))) (fun _ => M.pure [])))) (consM (callF 1 r__law_some (consM (varD 1) (fun _ => M.pure []))) (fun _ => M.pure []))))))
  (seqS (asgS (.one 6) (callF 4 r__law_pattern (consM (varD 1) (consM (varD 3) (consM (varD 4) (consM (varD 5) (fun _ => M.pure [])))))))
  (seqS (ifS (asTest (op2 (cmpD .NotEq) (callM reprD (consM (callF 2 r__law_told (consM (varD 5) (consM (varD 6) (fun _ => M.pure [])))) (fun _ => M.pure []))) (callM reprD (consM (tupM (consM (fun _ => M.pure (.str "let")) (consM (fun _ => M.pure (.bl true)) (fun _ => M.pure [])))) (fun _ => M.pure [])))))
  (seqS (retS (fun _ => M.pure (.bl false)))
  nextS)
  nextS)
  (seqS (loopS (.one 7) (rngM 1 (consM (callF 2 r__law_draw (consM (varD 1) (consM (fun _ => M.pure (.int 3)) (fun _ => M.pure [])))) (fun _ => M.pure [])))
  (seqS (asgS (.one 8) (callF 3 r__law_bent (consM (varD 1) (consM (varD 3) (consM (varD 6) (fun _ => M.pure []))))))
  (seqS (ifS (asTest (op2 (cmpD .NotEq) (callM reprD (consM (callF 2 r__law_told (consM (varD 5) (consM (varD 8) (fun _ => M.pure [])))) (fun _ => M.pure []))) (callM reprD (consM (tupM (consM (fun _ => M.pure (.str "let")) (consM (callF 2 r__law_is_sparing (consM (varD 5) (consM (varD 8) (fun _ => M.pure [])))) (fun _ => M.pure [])))) (fun _ => M.pure [])))))
  (seqS (retS (fun _ => M.pure (.bl false)))
  nextS)
  nextS)
  nextS)))
  (seqS (asgS (.one 9) (lstM (consM (revM (varD 5)) (consM (op2 (binD .Add) (varD 5) (tupM (consM (fun _ => M.pure (.int 5)) (fun _ => M.pure [])))) (consM (op2 (binD .Add) (varD 5) (sliceM (varD 5) (fun v => M.bind ((negV (fun _ => M.pure (.int 1))) v) partD) (fun _ => M.pure none))) (consM (callM listD (consM (varD 5) (fun _ => M.pure []))) (consM (op2 (binD .Add) (tupM (consM (negV (fun _ => M.pure (.int 1))) (fun _ => M.pure []))) (varD 5)) (consM (tupM (consM (fun _ => M.pure (.bl true)) (fun _ => M.pure []))) (consM (tupM (consM (fun _ => M.pure (.bl false)) (consM (fun _ => M.pure (.int 1)) (fun _ => M.pure [])))) (consM (tupM (consM (fun _ => M.pure (.str "0")) (fun _ => M.pure []))) (fun _ => M.pure [])))))))))))
  (seqS (asgS (.one 9) (callF 2 r__law_any (consM (varD 1) (consM (op2 (binD .Add) (varD 9) (lstM (consM (fun _ => M.pure .non) (consM (fun _ => M.pure (.int 3)) (consM (fun _ => M.pure (.str "")) (consM (fun _ => M.pure (.str "01")) (consM nilDict (consM (dispM [.inl (0)] (consM (fun _ => M.pure (.int 1)) (fun _ => M.pure []))) (consM (tupM (consM (tupM (consM (fun _ => M.pure (.int 0)) (fun _ => M.pure []))) (fun _ => M.pure []))) (consM (tupM (consM (fun _ => M.pure (.int 0)) (consM (fun _ => M.pure .non) (fun _ => M.pure [])))) (consM (callF 1 r__law_deep (consM (varD 1) (fun _ => M.pure []))) (consM (tupM (consM (op2 (binD .Pow) (fun _ => M.pure (.int 10)) (fun _ => M.pure (.int 30))) (fun _ => M.pure []))) (fun _ => M.pure []))))))))))))) (fun _ => M.pure [])))))
  (seqS (asgS (.one 10) (ifV (truth (callF 1 r__law_is_lot (consM (varD 9) (fun _ => M.pure [])))) (tupM (consM (fun _ => M.pure (.str "let")) (consM (callF 2 r__law_is_sparing (consM (varD 9) (consM (varD 6) (fun _ => M.pure [])))) (fun _ => M.pure [])))) (tupM (consM (fun _ => M.pure (.str "lot")) (consM (fun _ => M.pure .non) (fun _ => M.pure []))))))
  (seqS (ifS (asTest (op2 (cmpD .NotEq) (callM reprD (consM (callF 2 r__law_told (consM (varD 9) (consM (varD 6) (fun _ => M.pure [])))) (fun _ => M.pure []))) (callM reprD (consM (varD 10) (fun _ => M.pure [])))))
  (seqS (retS (fun _ => M.pure (.bl false)))
  nextS)
  nextS)
  (seqS (ifS (andM (notM (truth (callF 1 r__law_is_lot (consM (varD 9) (fun _ => M.pure []))))) (asTest (op2 (cmpD .NotEq) (callF 2 r__law_told (consM (varD 9) (consM (callF 3 r__law_bent (consM (varD 1) (consM (varD 3) (consM (varD 6) (fun _ => M.pure []))))) (fun _ => M.pure [])))) (tupM (consM (fun _ => M.pure (.str "lot")) (consM (fun _ => M.pure .non) (fun _ => M.pure [])))))))
  (seqS (retS (fun _ => M.pure (.bl false)))
  nextS)
  nextS)
  nextS))))))))))
  (seqS (retS (fun _ => M.pure (.bl true)))
  nextS)))
noncomputable def r_law : List D → M D := runB 11 b_law
theorem eq_law : evB c_law (defBody s_law) = b_law := by rfl
end DL.K50
set_option Elab.async false
set_option linter.all false
set_option maxRecDepth 100000
set_option maxHeartbeats 4000000
namespace DL.K50
open PySem PySem.Spec PyProof.Rows L2 DL

section
variable {p : Nat} {hs : Hs} {d : D}
/-! ## `x == ()` -/
def isNilT : D → Bool
  | .tup [] => true
  | _ => false
theorem eqx_nil (k : Kn hs d) : eqX hs d (.tup []) = some (isNilT d) := by
  unfold eqX
  cases e : eqD hs d (.tup []) with
  | some c =>
    rcases eqD_some e with ⟨x, y, _, q, _⟩ | ⟨a, b, e1, e2, s1, s2, rfl⟩
    · cases q
    · have e2 : some (PyData.tuple []) = some b := e2
      cases e2
      cases k with
      | non => cases e1; simp [PyData.eqv, isNilT]
      | bl => cases e1; simp [PyData.eqv, isNilT]
      | int => cases e1; simp [PyData.eqv, isNilT]
      | str => cases e1; simp [PyData.eqv, isNilT]
      | @tup xs =>
        cases xs with
        | nil => cases e1; simp [PyData.eqv, PyData.eqvAll, isNilT]
        | cons x xs =>
          unfold D.data at e1
          simp only [D.py, D.pys] at e1
          split at e1
          · cases e1; simp [PyData.eqv, PyData.eqvAll, isNilT]
          · cases e1
      | frl =>
        unfold D.data at e1
        simp only [D.py] at e1
        obtain ⟨ys, _, rfl⟩ := Option.map_eq_some_iff.mp e1
        simp [PyData.eqv, isNilT]
      | lst hc =>
        rw [← cell_eq] at hc
        unfold D.data at e1
        simp only [D.py, derefs, hc] at e1
        obtain ⟨ys, _, rfl⟩ := Option.map_eq_some_iff.mp e1
        simp [PyData.eqv, isNilT]
      | dct hc =>
        rw [← cell_eq] at hc
        unfold D.data at e1
        simp only [D.py, derefs, hc] at e1
        cases e1
  | none =>
    cases k with
    | @tup xs => cases xs <;> rfl
    | lst hc =>
      rw [← cell_eq] at hc
      simp [eqNil, hc, isNilT]
    | dct hc =>
      rw [← cell_eq] at hc
      simp [eqNil, hc, isNilT]
    | _ => rfl
theorem wp_eq_nil {Q : D → Hs → Prop} (k : Kn hs d) : Wp (cmpD .Eq d (.tup []) hs) Q = Q (.bl (isNilT d)) hs := by
  show Wp (answers (eqX hs d (.tup [])) hs) Q = _
  rw [eqx_nil k]
  rfl
theorem wp_dispK {κs : List Key} {n : Nat} {xs : List D} {h : Hs} {Q : Except Ex D → Hs → Prop} (h1 : cell h n = some (.dct [])) (h2 : xs.length = κs.length) : Wp (dispK κs n xs h) Q = Q (.ok (.loc n)) (h.set n (.dct ((κs.map kD).zip xs))) := by
  rw [← cell_eq] at h1
  unfold dispK
  rw [if_pos h2, h1]
  rfl
theorem in_ints {i : Int} {is : List Int} : inD hs (.int i) (.tup (is.map .int)) = some (decide (i ∈ is)) := by
  have e : is.map D.int = (is.map some).map encO := by
    rw [List.map_map]
    rfl
  rw [e]
  refine (in_tup (p := .int i) rfl (data_r (is.map some)) (shp_o (some i)) (shp_r _)).trans ?_
  congr 1
  clear e
  induction is with
  | nil => rfl
  | cons v ws ih =>
    simp only [List.map_cons, List.any_cons] at ih ⊢
    rw [ih]
    by_cases q : v = i
    · subst q; simp [pdO, PyData.eqv]
    · have q' : i ≠ v := fun e => q e.symm
      simp [pdO, PyData.eqv, q, q']
@[simp] theorem wp_rev_tup {xs : List D} {Q : D → Hs → Prop} : Wp (revD (.tup xs) hs) Q = Q (.tup xs.reverse) hs := rfl
/-! ## lots -/
def rising : List Int → Bool
  | a :: b :: r => decide (a < b) && rising (b :: r)
  | _ => true
def ltL : List Int → List Bool
  | a :: b :: r => decide (a < b) :: ltL (b :: r)
  | _ => []
theorem ltL_all : ∀ is, (ltL is).all id = rising is
  | [] => rfl
  | [_] => rfl
  | a :: b :: r => by simp [ltL, rising, ltL_all (b :: r)]
def ltG : D → Option D
  | .tup [.int a, .int b] => some (.bl (decide (a < b)))
  | _ => none
theorem ltG_all : ∀ is : List Int, (zipL (is.map .int) ((is.map .int).drop 1)).filterMap ltG = (ltL is).map .bl
  | [] => rfl
  | [_] => rfl
  | a :: b :: r => by
    have ih := ltG_all (b :: r)
    simp only [List.map_cons, List.drop_succ_cons, List.drop_zero] at ih ⊢
    simp only [zipL, ltL, List.map_cons, List.filterMap_cons, ltG]
    rw [ih]
theorem zip_ints : ∀ {is js : List Int} {d : D}, d ∈ zipL (is.map .int) (js.map .int) → ∃ a b, d = .tup [.int a, .int b]
  | [], _, _, h => by simp [zipL] at h
  | _ :: _, [], _, h => by simp [zipL] at h
  | a :: is, b :: js, d, h => by
    simp only [List.map_cons, zipL, List.mem_cons] at h
    rcases h with rfl | h
    · exact ⟨a, b, rfl⟩
    · exact zip_ints h
def intOf : D → Int
  | .int i => i
  | _ => 0
def lotB : D → Bool
  | .tup xs => xs.all (within 0 4) && rising (xs.map intOf)
  | _ => false
theorem all_ints {lo hi : Int} : ∀ {xs : List D}, xs.all (within lo hi) = true → xs = (xs.map intOf).map .int
  | [], _ => rfl
  | x :: xs, h => by
    rw [List.all_cons, Bool.and_eq_true] at h
    have ih := all_ints h.2
    cases x with
    | int i => rw [List.map_cons, List.map_cons, ← ih]; rfl
    | _ => cases h.1
variable {Q : Except Ex D → Hs → Prop}
theorem zip_comp {ok : Hs → Prop} {e : Ev} {i j : Nat} {is : List Int} {xs ys : List D} {hs : Hs} {Q : List D → Hs → Prop} (hok : ∀ h, ok h) (hx : xs = is.map .int) (hy : ys = xs.drop 1) (hl : is.length ≤ 1000) (hij : i ≠ j) (hi : i < e.length) (hj : j < e.length) (q : ∀ h, Gr [] hs h → Q ((ltL is).map .bl) h) :
    Wp (compS ok (turnM (.many [i, j]) (fun _ => M.pure true) (op2 (cmpD .Lt) (varD i) (varD j)) e) (zipL xs ys) [] hs) Q := by
  subst hx
  subst hy
  refine wp_comp_grow [] ltG (fun _ _ => hok _) (by rw [zipL_len]; simp; omega) (fun d h hd g => ?_) fun h g => ?_
  · rw [← List.map_drop] at hd
    obtain ⟨a, b, rfl⟩ := zip_ints hd
    have hi2 : i < (e.set i (some (D.int a))).length := by simpa using hi
    have hj2 : j < (e.set i (some (D.int a))).length := by simpa using hj
    simp [ltG, sets, List.getElem?_set, hij, hi, hj, Ne.symm hij]
    exact .refl
  · rw [ltG_all]
    exact q h g
theorem are_rising_ok {is : List Int} (hl : is.length ≤ 1000) (q : ∀ h, Gr [] hs h → Q (.ok (.bl (rising is))) h) : Wp (r_are_rising [.tup (is.map .int)] hs) Q := by
  unfold r_are_rising b_are_rising
  simp [cut_from]
  refine zip_comp (is := is) (fun _ => trivial) rfl (by simp) hl ?_ ?_ ?_ fun h g => ?_
  · decide
  · simp
  · simp
  · simp [flags_bl, ltL_all]
    exact q _ (g.trans .push)
theorem map_some {α : Type} (f : α → Bool) (xs : List α) : xs.filterMap (fun x => some (D.bl (f x))) = (xs.map f).map .bl := by
  induction xs with
  | nil => rfl
  | cons x r ih => simp
theorem is_lot_below_ok (k : Kn1 hs d) (hl : ∀ xs, d = .tup xs → xs.length ≤ 1000) (q : ∀ h, Gr [] hs h → Q (.ok (.bl (lotB d))) h) : Wp (r_is_lot_below [d, .int 5] hs) Q := by
  unfold r_is_lot_below b_is_lot_below
  have q0 := q hs .refl
  have k0 := k.1
  cases d with
  | tup xs =>
    have hl := hl xs rfl
    simp
    refine wp_comp_grow [] (fun x => some (.bl (within 0 4 x))) (fun _ _ => trivial) hl (fun y h hy g => ?_) fun h g => ?_
    · have ky := (k.2 xs rfl y hy).gr g
      simp [is_within_ok ky]
      exact .refl
    · rw [map_some]
      simp [flags_bl, -List.map_map]
      generalize (O.lst (List.map D.bl (List.map (within 0 4) xs))) = o
      refine ⟨fun x hx hw => ?_, fun hall => ?_⟩
      · have e : xs.all (within 0 4) = false := List.all_eq_false.mpr ⟨x, hx, by simp [hw]⟩
        have := q (h ++ [o]) (g.trans .push)
        simp only [lotB, e, Bool.false_and] at this
        rw [e]
        exact this
      · have e : xs.all (within 0 4) = true := List.all_eq_true.mpr hall
        have ex := all_ints e
        have q2 : ∀ h, Gr [] hs h → Q (.ok (.bl (rising (xs.map intOf)))) h := fun h g => by
          have := q h g
          simpa only [lotB, e, Bool.true_and] using this
        generalize xs.map intOf = is at ex q2
        subst ex
        exact are_rising_ok (by simpa using hl) fun h2 g2 => by simpa using q2 _ ((g.trans .push).trans g2)
  | _ => 
    cases k0 <;> simp [lotB, *] <;> simpa [lotB] using q0
theorem law_is_int_ok {lo hi : Int} (k : Kn hs d) : Wp (r__law_is_int [d, .int lo, .int hi] hs) Q = Q (.ok (.bl (within lo hi d))) hs := by
  unfold r__law_is_int b__law_is_int
  cases k <;> simp [isInt, within, Kn.non, Kn.bl, Kn.int, Kn.str, Kn.tup, Kn.frl, Kn.lst, Kn.dct, *]
  rename_i i
  by_cases h : lo ≤ i
  · have h2 : ¬ i < lo := by omega
    simp [h, h2]
  · have h2 : i < lo := by omega
    simp [h, h2]
theorem law_is_lot_ok (k : Kn1 hs d) (hl : ∀ xs, d = .tup xs → xs.length ≤ 1000) (q : ∀ h, Gr [] hs h → Q (.ok (.bl (lotB d))) h) : Wp (r__law_is_lot [d] hs) Q := by
  unfold r__law_is_lot b__law_is_lot
  have q0 := q hs .refl
  have k0 := k.1
  cases d with
  | tup xs =>
    have hl := hl xs rfl
    simp
    refine wp_comp_grow [] (fun x => some (.bl (within 0 4 x))) (fun _ _ => trivial) hl (fun y h hy g => ?_) fun h g => ?_
    · have ky := (k.2 xs rfl y hy).gr g
      simp [law_is_int_ok ky]
      exact .refl
    · rw [map_some]
      simp [flags_bl, -List.map_map]
      generalize (O.lst (List.map D.bl (List.map (within 0 4) xs))) = o
      refine ⟨fun x hx hw => ?_, fun hall => ?_⟩
      · have e : xs.all (within 0 4) = false := List.all_eq_false.mpr ⟨x, hx, by simp [hw]⟩
        have := q (h ++ [o]) (g.trans .push)
        simpa only [lotB, e, Bool.false_and] using this
      · have e : xs.all (within 0 4) = true := List.all_eq_true.mpr hall
        have ex := all_ints e
        have q2 : ∀ h, Gr [] hs h → Q (.ok (.bl (rising (xs.map intOf)))) h := fun h g => by
          have := q h g
          simpa only [lotB, e, Bool.true_and] using this
        generalize xs.map intOf = is at ex q2
        refine zip_comp (is := is) (fun _ => trivial) ex (by rw [cut_from (by decide)]; rfl) (by rw [ex] at hl; simpa using hl) ?_ ?_ ?_ fun h2 g2 => ?_
        · decide
        · simp
        · simp
        · refine ⟨_, flags_bl _, ?_⟩
          rw [ltL_all]
          exact q2 _ (((g.trans .push).trans g2).trans .push)
  | _ => 
    cases k0 <;> simp [lotB, *] <;> simpa [lotB] using q0
end
end DL.K50
set_option Elab.async false
set_option linter.all false
set_option maxRecDepth 100000
set_option maxHeartbeats 4000000
namespace DL.K50
open PySem PySem.Spec PyProof.Rows L2 DL

section
variable {p : Nat} {hs : Hs} {d s : D} {Q : Except Ex D → Hs → Prop}
def inO (is : List Int) : D → Bool
  | .non => true
  | .int i => decide (i ∈ is)
  | _ => false
def itemsOf : D → List D
  | .tup xs => xs
  | _ => []
def rowIn (is : List Int) (d : D) : Bool := (itemsOf d).all (inO is)
def sizeD (d : D) : Int := (itemsOf d).length
def spareB (is : List Int) : D → Bool
  | .tup [] => true
  | .tup (r :: rows) => sized 3 5 r && (patOk (sizeD r) 0 30 (.tup (r :: rows)) && (r :: rows).all (rowIn is))
  | _ => false
def sp (s d : D) : Bool := spareB ((itemsOf s).map intOf) d
theorem sized_tup {lo hi : Int} {r : D} (h : sized lo hi r = true) : ∃ xs, r = .tup xs ∧ lo ≤ xs.length ∧ (xs.length : Int) ≤ hi := by
  cases r with
  | tup xs =>
    refine ⟨xs, rfl, ?_⟩
    simpa [sized] using h
  | _ => cases h
theorem missL_all {many : Int} : ∀ {xs : List D} {k : Nat}, (missL many k xs).all id = true → ∀ x ∈ xs, x = .non ∨ ∃ i, x = .int i ∧ 0 ≤ i ∧ i ≤ many - 1
  | [], _, _, _, hx => by cases hx
  | y :: ys, k, h, x, hx => by
    simp only [missL, List.all_cons, Bool.and_eq_true] at h
    rcases List.mem_cons.mp hx with rfl | hx
    · cases x with
      | non => exact .inl rfl
      | int i =>
        have := h.1
        simp [miss] at this
        exact .inr ⟨i, rfl, this.1.1, this.1.2⟩
      | _ => cases h.1
    · exact missL_all h.2 x hx
theorem round_tup {m : Int} {r : D} (h : roundOk m r = true) : ∃ xs, r = .tup xs ∧ (xs.length : Int) = m ∧ ∀ x ∈ xs, x = .non ∨ ∃ i, x = .int i ∧ 0 ≤ i ∧ i ≤ m - 1 := by
  cases r with
  | tup xs =>
    simp only [roundOk, Bool.and_eq_true, decide_eq_true_eq] at h
    exact ⟨xs, rfl, h.1, missL_all h.2⟩
  | _ => cases h
theorem flat_items {rows : List D} {n : Nat} (h : ∀ r ∈ rows, (itemsOf r).length ≤ n) : (rows.flatMap itemsOf).length ≤ rows.length * n := by
  induction rows with
  | nil => simp
  | cons r rows ih =>
    have a := h r (by simp)
    have b := ih fun r hr => h r (by simp [hr])
    simp only [List.flatMap_cons, List.length_append, List.length_cons, Nat.add_mul, Nat.one_mul]
    omega
theorem flat_all {rows : List D} {is : List Int} : ((rows.flatMap itemsOf).map (inO is)).all id = rows.all (rowIn is) := by
  induction rows with
  | nil => rfl
  | cons r rows ih =>
    rw [List.flatMap_cons, List.map_append, List.all_append, ih, List.all_cons]
    congr 1
    simp [rowIn, Function.comp]
/-- a turn: None, or one of some ints -/
theorem in_turn {e : Ev} {i j : Nat} {is : List Int} {x : D} {h : Hs} {Q : Except Ex D → Hs → Prop} (hi : e[i]? = some (some x)) (hj : e[j]? = some (some (.tup (is.map .int)))) (hx : x = .non ∨ ∃ k, x = .int k) (q : Q (.ok (.bl (inO is x))) h) :
    Wp (orV (op2 (cmpD .Is) (varD i) (fun _ => M.pure .non)) (op2 (cmpD .In) (varD i) (varD j)) e h) Q := by
  rcases hx with rfl | ⟨k, rfl⟩
  · simp [hi, hj]
    exact q
  · simp [hi, hj, in_ints]
    exact q
theorem is_sparing_ok (k1 : Kn1 hs s) (hl : ∀ xs, s = .tup xs → xs.length ≤ 1000) (k2 : Kn2 hs d) (q1 : lotB s = false → ∀ h, Gr [] hs h → Q (.error ⟨"NoLot", []⟩) h) (q2 : lotB s = true → ∀ h, Gr [] hs h → Q (.ok (.bl (sp s d))) h) :
    Wp (r_is_sparing [s, d] hs) Q := by
  unfold r_is_sparing b_is_sparing
  simp [-wp_cmpEq]
  refine is_lot_below_ok k1 hl fun h1 g1 => ?_
  cases e : lotB s with
  | false =>
    simp [-wp_cmpEq]
    exact q1 e h1 g1
  | true =>
    have q := q2 e
    obtain ⟨is, rfl⟩ : ∃ is : List Int, s = .tup (is.map .int) := by
      cases s with
      | tup xs =>
        simp only [lotB, Bool.and_eq_true] at e
        exact ⟨_, by rw [← all_ints e.1]⟩
      | _ => cases e
    have esp : sp (.tup (is.map .int)) d = spareB is d := by
      unfold sp itemsOf
      congr 1
      rw [List.map_map]
      exact (List.map_congr_left fun _ _ => rfl).trans (List.map_id _)
    rw [esp] at q
    have k2 := k2.gr g1
    have k20 := k2.1
    simp [-wp_cmpEq, wp_eq_nil k2.1]
    cases d with
    | tup rows =>
      cases rows with
      | nil =>
        simp [isNilT]
        exact q _ g1
      | cons r rows =>
        have kr : Kn1 h1 r := k2.2 _ rfl r (by simp)
        simp [isNilT, -wp_cmpEq]
        rw [is_sized_ok kr.1]
        cases e3 : sized 3 5 r with
        | false =>
          simp [-wp_cmpEq]
          have := q _ g1
          simpa only [spareB, e3, Bool.false_and] using this
        | true =>
          obtain ⟨xs, rfl, x1, x2⟩ := sized_tup e3
          simp [-wp_cmpEq]
          refine is_pattern_of_ok (.inl ⟨rfl, rfl, rfl⟩) (by decide) ⟨by omega, by omega⟩ k2 fun h2 g2 => ?_
          have g12 := g1.trans g2
          cases e4 : patOk (xs.length : Nat) 0 30 (.tup (.tup xs :: rows)) with
          | false =>
            simp [-wp_cmpEq]
            have := q _ g12
            simpa only [spareB, e3, sizeD, itemsOf, e4, Bool.true_and, Bool.false_and] using this
          | true =>
            have q : ∀ h, Gr [] hs h → Q (.ok (.bl ((D.tup xs :: rows).all (rowIn is)))) h := fun h g => by
              have := q h g
              simpa only [spareB, e3, sizeD, itemsOf, e4, Bool.true_and] using this
            simp [-wp_cmpEq]
            simp only [patOk, Bool.and_eq_true, decide_eq_true_eq] at e4
            obtain ⟨⟨_, l30⟩, rds⟩ := e4
            generalize D.tup xs :: rows = rs at *
            have rds := List.all_eq_true.mp rds
            have row : ∀ r ∈ rs, ∃ ys, r = .tup ys ∧ ys.length ≤ 5 ∧ ∀ y ∈ ys, y = .non ∨ ∃ i, y = .int i := fun r hr => by
              obtain ⟨ys, e, l, all⟩ := round_tup (rds r hr)
              exact ⟨ys, e, by omega, fun y hy => (all y hy).imp id fun ⟨i, e, _⟩ => ⟨i, e⟩⟩
            have il : ∀ r ∈ rs, (itemsOf r).length ≤ 5 := fun r hr => by
              obtain ⟨ys, rfl, l, _⟩ := row r hr
              exact l
            refine wp_comp2 (fun i acc h => acc = (((rs.take i).flatMap itemsOf).map (inO is)).map D.bl ∧ Gr [] h2 h) ⟨by simp, .refl⟩ ?_ ?_
            · rintro i r acc h3 hi ⟨rfl, g3⟩
              refine ⟨trivial, ?_⟩
              have hr := List.mem_of_getElem? hi
              obtain ⟨ys, rfl, l, all⟩ := row r hr
              have fl : ((rs.take i).flatMap itemsOf).length ≤ (rs.take i).length * 5 := flat_items fun r hr => il r (List.mem_of_mem_take hr)
              have tl : (rs.take i).length ≤ 30 := by simp; omega
              simp [-wp_cmpEq, -wp_cmpIn]
              refine wp_comp_from [] (fun x => some (.bl (inO is x))) (fun _ _ => trivial) (by simp only [List.length_map]; omega) (fun x h4 hx g4 => ?_) fun h4 g4 => ?_
              · simp only [turnM_one]
                rcases all x hx with rfl | ⟨k, rfl⟩
                · simp [inO]
                  exact .refl
                · simp [inO, in_ints]
                  exact .refl
              · refine ⟨?_, g3.trans g4⟩
                rw [List.take_add_one, hi, map_some]
                simp [itemsOf]
            · rintro acc h3 ⟨rfl, g3⟩
              refine ⟨trivial, ?_⟩
              rw [List.take_length]
              simp [flags_bl, -List.map_map]
              exact q _ ((g12.trans g3).trans .push)
    | _ => 
      cases k20 <;> simp [isNilT, *, -wp_cmpEq] <;> simpa [spareB] using q _ g1
theorem missL_iff {m : Int} : ∀ {xs : List D} {k : Nat}, (missL m k xs).all id = true ↔ ∀ (i : Nat) x, xs[i]? = some x → miss m ((k + i : Nat) : Int) x = true
  | [], k => by simp [missL]
  | y :: ys, k => by
    simp only [missL, List.all_cons, Bool.and_eq_true, missL_iff (xs := ys) (k := k + 1), id]
    constructor
    · rintro ⟨a, b⟩ i x hx
      cases i with
      | zero => cases hx; exact a
      | succ i =>
        have := b i x (by simpa using hx)
        rw [show k + (i + 1) = k + 1 + i by omega]
        exact this
    · intro h
      refine ⟨h 0 y rfl, fun i x hx => ?_⟩
      have := h (i + 1) x (by simpa using hx)
      rw [show k + (i + 1) = k + 1 + i by omega] at this
      exact this
theorem law_is_row_ok {m : Int} {is : List Int} (hm : 0 ≤ m ∧ m ≤ 1000) (k : Kn1 hs d) (q : ∀ h, Gr [] hs h → Q (.ok (.bl (roundOk m d && rowIn is d))) h) : Wp (r__law_is_row [d, .int m, .tup (is.map .int)] hs) Q := by
  unfold r__law_is_row b__law_is_row
  have q0 := q hs .refl
  have k0 := k.1
  cases d with
  | tup xs =>
    simp [-wp_cmpIn]
    by_cases hl : (xs.length : Int) = m
    · simp [hl, -wp_cmpIn]
      refine ⟨by omega, ?_⟩
      refine wp_for (fun i e h => ∃ x3, e = [some (.tup xs), some (.int m), some (.tup (is.map .int)), x3, none] ∧ Gr [] hs h ∧ ∀ (j : Nat) x, j < i → xs[j]? = some x → miss m (j : Nat) x = true) ⟨_, rfl, .refl, fun j x hj => by omega⟩ ?_ ?_
      · rintro i y e h hi ⟨x3, rfl, g, hall⟩
        obtain ⟨hi, rfl⟩ := intL_at hi
        refine ⟨trivial, ?_⟩
        have hlt : i < xs.length := by omega
        have hx : xs[i]? = some xs[i] := by simp [hlt]
        have kx : Kn h xs[i] := (k.2 xs rfl _ (List.getElem_mem hlt)).gr g
        have at1 : atI xs ((i : Nat) : Int) = some xs[i] := atI_nat (by simpa using hx) (by omega)
        generalize xs[i] = x at *
        have no : miss m (i : Nat) x = false → Q (.ok (.bl false)) h := fun e => by
          have e2 : roundOk m (.tup xs) = false := by
            cases e3 : roundOk m (.tup xs) with
            | false => rfl
            | true =>
              simp only [roundOk, Bool.and_eq_true] at e3
              have := missL_iff.mp e3.2 i x hx
              rw [Nat.zero_add, e] at this
              cases this
          have := q h g
          rwa [e2, Bool.false_and] at this
        have yes : miss m (i : Nat) x = true → ∀ (j : Nat) y, j < i + 1 → xs[j]? = some y → miss m (j : Nat) y = true := fun e j y hj hy => by
          by_cases ej : j = i
          · subst ej
            rw [hx] at hy
            cases hy
            exact e
          · exact hall j y (by omega) hy
        have kx' := kx
        cases kx with
        | non =>
          simp [at1]
          exact ⟨g, yes rfl⟩
        | @int k =>
          simp [at1, law_is_int_ok kx']
          by_cases hw : within 0 (m - 1) (.int k) = true
          · have hw2 := hw
            simp only [within, Bool.and_eq_true, decide_eq_true_eq] at hw2
            by_cases he : k = (i : Int)
            · have e : miss m (i : Nat) (.int k) = false := by simp [miss, he]
              simp [hw, he, at1]
              exact ⟨fun _ => no e, fun _ => no e⟩
            · have e : miss m (i : Nat) (.int k) = true := by simp [miss, he, hw2.1, hw2.2]
              simp [hw, he, at1]
              exact ⟨g, yes e⟩
          · have e : miss m (i : Nat) (.int k) = false := by
              simp only [Bool.not_eq_true] at hw
              simp only [within] at hw
              simp [miss, hw]
            simp [hw, at1]
            simpa using no e
        | _ =>
          simp [at1, law_is_int_ok kx', within]
          simpa using no rfl
      · rintro e h ⟨x3, rfl, g, hall⟩
        refine ⟨trivial, ?_⟩
        have e3 : roundOk m (.tup xs) = true := by
          simp only [roundOk, Bool.and_eq_true, decide_eq_true_eq]
          refine ⟨hl, missL_iff.mpr fun i x hx => ?_⟩
          rw [Nat.zero_add]
          have := (List.getElem?_eq_some_iff.mp hx).1
          exact hall i x (by rw [intL_len]; omega) hx
        obtain ⟨ys, e, _, all⟩ := round_tup e3
        cases e
        rw [e3] at q
        simp [-wp_cmpIn]
        refine wp_comp_grow [] (fun x => some (.bl (inO is x))) (fun _ _ => trivial) (by omega) (fun x h4 hx g4 => ?_) fun h4 g4 => ?_
        · rcases all x hx with rfl | ⟨k, rfl, _⟩
          · simp [inO]
            exact .refl
          · simp [inO, in_ints]
            exact .refl
        · rw [map_some]
          simp [flags_bl, -List.map_map]
          have := q _ ((g.trans g4).trans (Gr.push (o := .lst ((xs.map (inO is)).map .bl))))
          simpa [rowIn, itemsOf] using this
    · have e : roundOk m (.tup xs) = false := by simp [roundOk, hl]
      rw [e] at q0
      simp [hl]
      simpa using q0
  | _ =>
    cases k0 <;> simp [*] <;> simpa [roundOk] using q0
def rowB (is : List Int) (m : Int) (r : D) : Bool := roundOk m r && rowIn is r
def lawSp (is : List Int) : D → Bool
  | .tup rows => decide ((rows.length : Int) ≤ 30) && (rows.all (rowB is 3) || (rows.all (rowB is 4) || rows.all (rowB is 5)))
  | _ => false
theorem law_is_sparing_ok {is : List Int} (k : Kn2 hs d) (q : ∀ h, Gr [] hs h → Q (.ok (.bl (lawSp is d))) h) : Wp (r__law_is_sparing [.tup (is.map .int), d] hs) Q := by
  unfold r__law_is_sparing b__law_is_sparing
  have q0 := q hs .refl
  have k0 := k.1
  cases d with
  | tup rows =>
    simp
    by_cases hl : (rows.length : Int) ≤ 30
    · have hl2 : ¬ (30 : Int) < (rows.length : Int) := by omega
      simp only [lawSp, hl, decide_true, Bool.true_and] at q
      simp [hl2, hl]
      refine wp_for (fun i e h => ∃ x2, e = [some (.tup (is.map .int)), some (.tup rows), x2, none] ∧ Gr [] hs h ∧ cell h hs.length = some (.lst [.int 3, .int 4, .int 5]) ∧ ∀ j : Nat, j < i → rows.all (rowB is (3 + j)) = false) ?_ ?_ ?_
      · exact ⟨_, rfl, .push, by simp, fun j hj => by omega⟩
      · rintro i y e h hi ⟨x2, rfl, g, hc, hall⟩
        refine ⟨hc, ?_⟩
        obtain ⟨hi3, rfl⟩ : i < 3 ∧ y = .int (3 + i) := by
          match i, hi with
          | 0, hi => cases hi; exact ⟨by omega, rfl⟩
          | 1, hi => cases hi; exact ⟨by omega, rfl⟩
          | 2, hi => cases hi; exact ⟨by omega, rfl⟩
          | n + 3, hi => simp at hi
        simp
        refine wp_comp_grow [] (fun x => some (.bl (rowB is (3 + i) x))) (fun _ _ => trivial) (by omega) (fun x h4 hx g4 => ?_) fun h4 g4 => ?_
        · simp
          refine law_is_row_ok (by omega) ((k.2 rows rfl x hx).gr (g.trans g4)) fun h5 g5 => ?_
          simp [rowB]
          exact g5
        · rw [map_some]
          simp [flags_bl, -List.map_map]
          generalize O.lst (List.map D.bl (List.map (rowB is (3 + i)) rows)) = o
          refine ⟨fun x hx hx2 => ⟨(g.trans g4).trans .push, (g4.trans .push).get hc (by simp), fun j hj => ?_⟩, fun hall2 => ?_⟩
          · by_cases ej : j = i
            · subst ej
              exact ⟨x, hx, hx2⟩
            · obtain ⟨x, hx, hn⟩ := List.all_eq_false.mp (hall j (by omega))
              exact ⟨x, hx, by simpa using hn⟩
          · have e : rows.all (rowB is (3 + (i : Nat))) = true := List.all_eq_true.mpr hall2
            have := q (h4 ++ [o]) ((g.trans g4).trans .push)
            have e2 : (rows.all (rowB is 3) || (rows.all (rowB is 4) || rows.all (rowB is 5))) = true := by
              rcases (show i = 0 ∨ i = 1 ∨ i = 2 by omega) with rfl | rfl | rfl
              · change rows.all (rowB is 3) = true at e
                rw [e]; rfl
              · change rows.all (rowB is 4) = true at e
                rw [e]; simp
              · change rows.all (rowB is 5) = true at e
                rw [e]; simp
            rwa [e2] at this
      · rintro e h ⟨x2, rfl, g, hc, hall⟩
        refine ⟨hc, ?_⟩
        have a := hall 0 (by simp)
        have b := hall 1 (by simp)
        have c := hall 2 (by simp)
        have := q h g
        change rows.all (rowB is 3) = false at a
        change rows.all (rowB is 4) = false at b
        change rows.all (rowB is 5) = false at c
        rw [a, b, c] at this
        simpa using this
    · have hl2 : (30 : Int) < (rows.length : Int) := by omega
      simp only [lawSp, hl, decide_false, Bool.false_and] at q0
      simp [hl2, hl]
      exact q0
  | _ =>
    cases k0 <;> simp [*] <;> simpa [lawSp] using q0
theorem spare_same {is : List Int} {d : D} : lawSp is d = spareB is d := by
  cases d with
  | tup rows =>
    cases rows with
    | nil => rfl
    | cons r rows =>
      rw [Bool.eq_iff_iff]
      simp only [lawSp, spareB, patOk, Bool.and_eq_true, Bool.or_eq_true, decide_eq_true_eq]
      have split : ∀ m, (r :: rows).all (rowB is m) = true ↔ (r :: rows).all (roundOk m) = true ∧ (r :: rows).all (rowIn is) = true := fun m => by
        simp only [List.all_eq_true, rowB, Bool.and_eq_true]
        exact ⟨fun h => ⟨fun x hx => (h x hx).1, fun x hx => (h x hx).2⟩, fun h x hx => ⟨h.1 x hx, h.2 x hx⟩⟩
      constructor
      · rintro ⟨h1, h2⟩
        obtain ⟨m, hm, h⟩ : ∃ m : Int, (3 ≤ m ∧ m ≤ 5) ∧ (r :: rows).all (rowB is m) = true := by
          rcases h2 with h2 | h2 | h2
          · exact ⟨3, by decide, h2⟩
          · exact ⟨4, by decide, h2⟩
          · exact ⟨5, by decide, h2⟩
        obtain ⟨a, b⟩ := (split m).mp h
        obtain ⟨xs, rfl, e, _⟩ := round_tup (List.all_eq_true.mp a r (by simp))
        subst e
        refine ⟨by simp [sized, hm.1, hm.2], ⟨⟨by omega, h1⟩, a⟩, b⟩
      · rintro ⟨h1, ⟨⟨_, h2⟩, h3⟩, h4⟩
        obtain ⟨xs, rfl, x1, x2⟩ := sized_tup h1
        have h := (split _).mpr ⟨h3, h4⟩
        refine ⟨h2, ?_⟩
        have e : sizeD (.tup xs) = 3 ∨ sizeD (.tup xs) = 4 ∨ sizeD (.tup xs) = 5 := by
          show ((xs.length : Nat) : Int) = 3 ∨ ((xs.length : Nat) : Int) = 4 ∨ ((xs.length : Nat) : Int) = 5
          omega
        rcases e with e | e | e <;> rw [e] at h
        · exact .inl h
        · exact .inr (.inl h)
        · exact .inr (.inr h)
  | _ => rfl
/-! ## told -/
def toldD (s d : D) : D := if lotB s = true then .tup [.str "let", .bl (sp s d)] else .tup [.str "lot", .non]
theorem wp_isiHot {C : SC} {fs : Ev → M (List D)} {t : Tk} {c : Str} {as : List (Str × Lf)} {x : D} {b : Bool} {e : Ev} (ht : C.hot = some t) (hb : hitA C c x = some b) (hf : fs e hs = some (.ok [.exv t c as, x], hs)) : Wp (isiHot C fs e hs) Q = Q (.ok (.bl b)) hs := by
  unfold isiHot
  rw [wp_bind]
  have : isiOf C [.exv t c as, x] = some b := by
    simp only [isiOf, ht, if_true]
    exact hb
  unfold Wp
  simp only [hf, onOk, this]
  rfl
theorem hit1 (t : Tk) : hitA (c__law_told.at t) "NoLot" (.tup [.glo "NoMachine", .glo "NoPattern"]) = some false := by rfl
theorem hit2 (t : Tk) : hitA (c__law_told.at t) "NoLot" (.ty "ValueError") = some true := by rfl
theorem told_ok (k1 : Kn1 hs s) (hl : ∀ xs, s = .tup xs → xs.length ≤ 1000) (k2 : Kn2 hs d) (q : ∀ h, Gr [] hs h → Q (.ok (toldD s d)) h) : Wp (r__law_told [s, d] hs) Q := by
  unfold r__law_told b__law_told
  simp
  refine is_sparing_ok k1 hl k2 (fun e h g => ?_) fun e h g => ?_
  · have := q h g
    simp only [toldD, e] at this
    simp
    rw [Deck.hdM_yes]
    refine wp_suite (.ret (.tup [.str "lot", .non])) h (fun t => ?_) ?_
    · simp [putV]
      rw [wp_isiHot rfl (hit1 t) rfl]
      simp
      rw [wp_isiHot rfl (hit2 t) rfl]
      simp [stripF]
    · simp
      exact this
  · have := q h g
    simp only [toldD, e, if_true] at this
    simp
    exact this
end
end DL.K50
set_option Elab.async false
set_option linter.all false
set_option maxRecDepth 100000
set_option maxHeartbeats 4000000
namespace DL.K50
open PySem PySem.Spec PyProof.Rows L2 DL

section
variable {p : Nat} {hs : Hs} {d s : D} {Q : Except Ex D → Hs → Prop}
theorem Kn.pg {h h' : Hs} {d : D} (k : Kn h d) (g : Pg p h h') : Kn h' d := by
  have hp : ∃ xs, cell h' p = some (.lst xs) := by
    obtain ⟨c, cells, a, b, s, t, _, _, hc, _⟩ := g.pot
    exact ⟨_, hc⟩
  obtain ⟨ys, hp⟩ := hp
  cases k with
  | non => exact .non
  | bl => exact .bl
  | int => exact .int
  | str => exact .str
  | tup => exact .tup
  | frl => exact .frl
  | @lst n xs e =>
    by_cases hn : n = p
    · subst hn; exact .lst hp
    · exact .lst (g.get e hn)
  | @dct n xs e =>
    by_cases hn : n = p
    · subst hn; exact .lst hp
    · exact .dct (g.get e hn)
theorem Kn1.pg {h h' : Hs} {d : D} (k : Kn1 h d) (g : Pg p h h') : Kn1 h' d := ⟨Kn.pg k.1 g, fun xs e x hx => Kn.pg (k.2 xs e x hx) g⟩
theorem Kn2.pg {h h' : Hs} {d : D} (k : Kn2 h d) (g : Pg p h h') : Kn2 h' d := ⟨Kn.pg k.1 g, fun xs e x hx => Kn1.pg (k.2 xs e x hx) g⟩
theorem rising_snoc {x : Int} : ∀ {ss : List Int}, rising ss = true → (∀ q ∈ ss, q < x) → rising (ss ++ [x]) = true
  | [], _, _ => rfl
  | [a], _, h => by simp [rising, h a (by simp)]
  | a :: b :: r, h1, h2 => by
    simp only [rising, Bool.and_eq_true] at h1
    have ih := rising_snoc (ss := b :: r) h1.2 fun q hq => h2 q (List.mem_cons_of_mem _ hq)
    show (decide (a < b) && rising ((b :: r) ++ [x])) = true
    rw [h1.1, ih]; rfl
def someGood (ss : List Int) : Prop := rising ss = true ∧ (∀ q ∈ ss, 0 ≤ q ∧ q ≤ 4) ∧ ss.length ≤ 5
theorem some_ok (h : Pot p hs) (k : ∀ ss h', someGood ss → Pg p hs h' → Q (.ok (.tup (ss.map .int))) h') : Wp (r__law_some [.loc p] hs) Q := by
  unfold r__law_some b__law_some
  simp
  refine wp_comp (fun j acc h => ∃ ss : List Int, acc = ss.map .int ∧ rising ss = true ∧ (∀ q ∈ ss, 0 ≤ q ∧ q < j) ∧ ss.length ≤ j ∧ Pg p hs h) ⟨[], rfl, rfl, by simp, by simp, .refl h⟩ ?_ ?_
  · rintro j d acc h4 hj ⟨ss, rfl, r, b, l, g⟩
    obtain ⟨hj, rfl⟩ := intL_at hj
    refine ⟨trivial, ?_⟩
    simp
    refine draw_ok g.pot (by decide) (sm (by decide) (by decide)) fun v h5 v0 v1 g5 => ?_
    simp
    by_cases hv : v = 0
    · simp [hv]
      refine ⟨small1000 (by omega), ss ++ [(j : Int)], by simp, rising_snoc r fun q hq => (b q hq).2, fun q hq => ?_, by simp; omega, g.trans g5⟩
      rcases List.mem_append.mp hq with hq | hq
      · have := b q hq
        omega
      · rw [List.mem_singleton.mp hq]
        omega
    · simp [hv]
      exact ⟨ss, rfl, r, fun q hq => by have := b q hq; omega, by omega, g.trans g5⟩
  · rintro acc h4 ⟨ss, rfl, r, b, l, g⟩
    refine ⟨trivial, ?_⟩
    exact k ss _ ⟨r, fun q hq => ⟨(b q hq).1, by have := (b q hq).2; simp [intL_len] at this; omega⟩, by simpa [intL_len] using l⟩ (g.trans (.push g.pot))
def entIn (ss : List Int) (o : Option Int) : Prop := ∀ q, o = some q → q ∈ ss
theorem entry_ok {many me : Int} {ss : List Int} (h : Pot p hs) (hss : someGood ss) (k : ∀ o h', entGood many me o → entIn ss o → Pg p hs h' → Q (.ok (encO o)) h') : Wp (r__law_entry [.loc p, .int many, .int me, .tup (ss.map .int)] hs) Q := by
  unfold r__law_entry b__law_entry
  simp
  refine wp_comp_grow [] (fun d => match d with
    | .int q => if q < many ∧ q ≠ me then some (.int q) else none
    | _ => none) (fun _ _ => trivial) (by simp; have := hss.2.2; omega) (fun d h2 hd g2 => ?_) fun h2 g2 => ?_
  · obtain ⟨i, _, rfl⟩ := List.mem_map.mp hd
    by_cases e1 : i < many <;> by_cases e2 : i = me <;> simp [e1, e2] <;> first | exact .refl | exact ⟨fun _ => .refl, fun _ => .refl⟩
  · have g3 : Pg p hs h2 := .of h g2
    have hlt := g3.pot.lt
    generalize hL : List.filterMap _ (ss.map D.int) = L
    have mem : ∀ x ∈ L, ∃ q : Int, x = .int q ∧ q < many ∧ q ≠ me ∧ q ∈ ss := by
      intro x hx
      rw [← hL] at hx
      obtain ⟨d, hd, e⟩ := List.mem_filterMap.mp hx
      obtain ⟨i, hi, rfl⟩ := List.mem_map.mp hd
      simp at e
      exact ⟨i, e.2.symm, e.1.1, e.1.2, hi⟩
    have len : L.length ≤ 5 := by
      rw [← hL]
      exact Nat.le_trans (List.length_filterMap_le _ _) (by simpa using hss.2.2)
    have gp : Pg p h2 (h2 ++ [O.lst L]) := .push g3.pot
    refine ⟨fun _ => k none _ trivial (fun q e => by cases e) (g3.trans gp), fun ne => ?_⟩
    refine draw_ok gp.pot (by decide) (sm (by decide) (by decide)) fun v h5 v0 v1 g5 => ?_
    have hc : cell h5 h2.length = some (.lst L) := g5.get cell_push (by omega)
    simp
    refine ⟨fun _ => k none _ trivial (fun q e => by cases e) ((g3.trans gp).trans g5), fun _ => ?_⟩
    refine any_ok g5.pot (.loc hc (by omega)) ne (by omega) fun x h6 hx g6 => ?_
    obtain ⟨q, rfl, q1, q2, q3⟩ := mem x hx
    simp
    exact k (some q) _ ⟨(hss.2.1 q q3).1, q1, q2⟩ (fun _ e => by cases e; exact q3) (((g3.trans gp).trans g5).trans g6)
def patIn (ss : List Int) (pat : List (List (Option Int))) : Prop := ∀ r ∈ pat, ∀ o ∈ r, entIn ss o
theorem pattern_ok {many rounds : Int} {ss : List Int} (h : Pot p hs) (hss : someGood ss) (hm : 3 ≤ many ∧ many ≤ 5) (hr : 0 ≤ rounds ∧ rounds ≤ 30) (k : ∀ pat h', (pat.length : Int) = rounds → patGood many pat → patIn ss pat → Pg p hs h' → Q (.ok (encP pat)) h') : Wp (r__law_pattern [.loc p, .int many, .int rounds, .tup (ss.map .int)] hs) Q := by
  have hlt := h.lt
  unfold r__law_pattern b__law_pattern
  simp
  refine ⟨by omega, ?_⟩
  have gA : Pg p hs (hs ++ [O.lst []]) := .push h
  refine wp_for (fun i e h => ∃ (rows : List (List (Option Int))) (x5 x6 : Option D), e = [some (.loc p), some (.int many), some (.int rounds), some (.tup (ss.map .int)), some (.loc hs.length), x5, x6] ∧ rows.length = i ∧ patGood many rows ∧ patIn ss rows ∧ Pg p hs h ∧ hs.length < h.length ∧ cell h hs.length = some (.lst (rows.map encR))) ?_ ?_ ?_
  · exact ⟨[], _, _, rfl, rfl, (fun r hr => nomatch hr), (fun r hr => nomatch hr), gA, by simp, by simp⟩
  · rintro i d e h' hi ⟨rows, x5, x6, rfl, hl, good, inn, g, hln, hc⟩
    refine ⟨trivial, ?_⟩
    have hi30 : i < 30 := by
      have := (List.getElem?_eq_some_iff.mp hi).1
      rw [intL_len] at this
      omega
    simp
    refine ⟨⟨_, hc⟩, by omega, ?_⟩
    refine wp_comp (fun j acc h => ∃ r : List (Option Int), acc = r.map encO ∧ r.length = j ∧ (∀ (k : Nat) o, r[k]? = some o → entGood many (k : Nat) o) ∧ (∀ o ∈ r, entIn ss o) ∧ Pg p h' h) ⟨[], rfl, rfl, fun k o ho => by simp at ho, fun o ho => (nomatch ho), .refl g.pot⟩ ?_ ?_
    · rintro j d acc h4 hj ⟨r, rfl, hl2, gr, ir, g4⟩
      obtain ⟨hj, rfl⟩ := intL_at hj
      refine ⟨trivial, ?_⟩
      simp
      refine entry_ok g4.pot hss fun o h5 go io g5 => ?_
      simp
      refine ⟨small1000 (by omega), r ++ [o], by simp, by simp [hl2], fun k o2 ho => ?_, fun o2 ho => ?_, g4.trans g5⟩
      · by_cases hk : k < r.length
        · rw [List.getElem?_append_left hk] at ho
          exact gr k o2 ho
        · rw [List.getElem?_append_right (by omega)] at ho
          have : k - r.length = 0 := by
            have := (List.getElem?_eq_some_iff.mp ho).1
            simpa using this
          rw [this] at ho
          simp at ho
          subst ho
          have : k = j := by omega
          subst this
          exact go
      · rcases List.mem_append.mp ho with ho | ho
        · exact ir o2 ho
        · rw [List.mem_singleton.mp ho]; exact io
    · rintro acc h4 ⟨r, rfl, hl2, gr, ir, g4⟩
      refine ⟨trivial, ?_⟩
      rw [intL_len] at hl2
      have g5 : Pg p h4 (h4 ++ [O.lst (r.map encO)]) := .push g4.pot
      have g6 := (g.trans g4).trans g5
      have c6 : cell (h4 ++ [O.lst (r.map encO)]) hs.length = some (.lst (rows.map encR)) := (g4.trans g5).get hc (by omega)
      have l6 := cell_lt c6
      have l7 : hs.length < h4.length + 1 := by simpa using l6
      have er : D.tup (r.map encO) = encR r := rfl
      rw [er]
      generalize h4 ++ [O.lst (r.map encO)] = H at *
      refine ⟨_, c6, small1000 (by simp; omega), rows ++ [r], by simp [hl], fun q hq => ?_, fun q hq => ?_, g6.set (Nat.le_refl _) hlt, l7, by simp [l6]⟩
      · rcases List.mem_append.mp hq with hq | hq
        · exact good q hq
        · rw [List.mem_singleton.mp hq]; exact ⟨by omega, gr⟩
      · rcases List.mem_append.mp hq with hq | hq
        · exact inn q hq
        · rw [List.mem_singleton.mp hq]; exact ir
  · rintro e h' ⟨rows, x5, x6, rfl, hl, good, inn, g, hln, hc⟩
    refine ⟨trivial, ?_⟩
    simp [hc]
    refine k rows _ ?_ good inn g
    rw [hl, intL_len]
    omega
theorem deep_ok (h : Pot p hs) (k : ∀ x h', Kn1 h' x → (∀ xs, x = .tup xs → xs.length ≤ 1) → Pg p hs h' → Q (.ok x) h') : Wp (r__law_deep [.loc p] hs) Q := by
  have hlt := h.lt
  unfold r__law_deep b__law_deep
  simp
  refine any_ok (h.gr .push) (.loc cell_push (by omega)) (by simp) (by simp) fun x h1 hx g1 => ?_
  simp
  have kx : Kn1 h1 x ∧ ∀ xs, x = .tup xs → xs.length ≤ 1 := by
    simp only [List.mem_cons, List.not_mem_nil, or_false] at hx
    rcases hx with rfl | rfl | rfl | rfl
    · exact ⟨⟨.tup, fun xs e x hx => by cases e; cases hx⟩, fun xs e => by cases e; simp⟩
    · exact ⟨⟨.int, fun xs e => by cases e⟩, fun xs e => by cases e⟩
    · exact ⟨⟨.non, fun xs e => by cases e⟩, fun xs e => by cases e⟩
    · exact ⟨⟨.str, fun xs e => by cases e⟩, fun xs e => by cases e⟩
  have gA : Pg p hs h1 := (Pg.push h).trans g1
  refine draw_ok g1.pot (by decide) (sm (by decide) (by decide)) fun v h2 v0 v1 g2 => ?_
  simp
  refine ⟨by omega, ?_⟩
  refine wp_for (fun i e h => ∃ (x : D) (x2 : Option D), e = [some (.loc p), some x, x2] ∧ Kn1 h x ∧ (∀ xs, x = .tup xs → xs.length ≤ 1) ∧ Pg p hs h) ⟨_, _, rfl, Kn1.pg kx.1 g2, kx.2, gA.trans g2⟩ ?_ ?_
  · rintro i d e h3 hi ⟨x, x2, rfl, k1, l1, g3⟩
    refine ⟨trivial, ?_⟩
    have hlt3 := g3.pot.lt
    simp [dispM]
    rw [wp_dispK (by simp [cell_app]) rfl]
    have e : (h3 ++ [O.lst [x], O.dct []]).set (h3.length + 1) (.dct (([Sum.inr ("a" : Str)].map kD).zip [x])) = h3 ++ [O.lst [x], .dct (([Sum.inr ("a" : Str)].map kD).zip [x])] := by simp
    rw [e]
    generalize (([Sum.inr ("a" : Str)].map kD).zip [x]) = kvs
    simp
    have g4 : Pg p h3 (h3 ++ [O.lst [x], .dct kvs, .lst [.tup [x], .loc h3.length, .loc (h3.length + 1)]]) := .of g3.pot .app
    have c1 : cell (h3 ++ [O.lst [x], .dct kvs, .lst [.tup [x], .loc h3.length, .loc (h3.length + 1)]]) h3.length = some (.lst [x]) := by simp [cell_app]
    have c2 : cell (h3 ++ [O.lst [x], .dct kvs, .lst [.tup [x], .loc h3.length, .loc (h3.length + 1)]]) (h3.length + 1) = some (.dct kvs) := by simp [cell_app]
    have c3 : cell (h3 ++ [O.lst [x], .dct kvs, .lst [.tup [x], .loc h3.length, .loc (h3.length + 1)]]) (h3.length + 2) = some (.lst [.tup [x], .loc h3.length, .loc (h3.length + 1)]) := by simp [cell_app]
    generalize h3 ++ [O.lst [x], .dct kvs, .lst [.tup [x], .loc h3.length, .loc (h3.length + 1)]] = H at *
    refine draw_ok g4.pot (by decide) (sm (by decide) (by decide)) fun w h5 w0 w1 g5 => ?_
    have d1 := g5.get c1 (by omega)
    have d2 := g5.get c2 (by omega)
    have d3 := g5.get c3 (by omega)
    have g35 := g4.trans g5
    simp [d3]
    rcases (show w = 0 ∨ w = 1 ∨ w = 2 by omega) with rfl | rfl | rfl
    · exact ⟨_, rfl, ⟨.tup, fun xs e y hy => by cases e; rw [List.mem_singleton.mp hy]; exact Kn.pg k1.1 g35⟩, (fun xs e => by cases e; simp), g3.trans g35⟩
    · exact ⟨_, rfl, ⟨.lst d1, fun xs e => by cases e⟩, (fun xs e => by cases e), g3.trans g35⟩
    · exact ⟨_, rfl, ⟨.dct d2, fun xs e => by cases e⟩, (fun xs e => by cases e), g3.trans g35⟩
  · rintro e h3 ⟨x, x2, rfl, k1, l1, g3⟩
    refine ⟨trivial, ?_⟩
    simp
    exact k x _ k1 l1 g3
end
end DL.K50
set_option Elab.async false
set_option linter.all false
set_option maxRecDepth 100000
set_option maxHeartbeats 4000000
namespace DL.K50
open PySem PySem.Spec PyProof.Rows L2 DL

section
variable {p : Nat} {hs : Hs} {d s : D} {Q : Except Ex D → Hs → Prop}
theorem one_mul {a : D} {i : Int} {hs : Hs} {Q : D → Hs → Prop} (h : 0 ≤ i ∧ i ≤ 1000) : Wp (binD .Mult (.tup [a]) (.int i) hs) Q = Q (.tup (List.replicate i.toNat a)) hs := by
  rw [wp_tup_mul (by simpa using h)]
  have : (List.replicate i.toNat [a]).flatten = List.replicate i.toNat a := by
    generalize i.toNat = n
    induction n with
    | zero => rfl
    | succ n ih => rw [List.replicate_succ, List.flatten_cons, ih]; rfl
  rw [this]
theorem sz {n : Nat} (h : n ≤ 16777216) : n ≤ sizeLine := by rw [sizeLine_eq]; exact h
def NxR (I : Ev → Hs → Prop) (Q : Except Ex D → Hs → Prop) : Fl → Hs → Prop := fun r h => match r with
  | .nx e => I e h
  | .ret d => Q (.ok d) h
  | _ => False
@[simp] theorem nxR_nx {I : Ev → Hs → Prop} {e : Ev} {h : Hs} : NxR I Q (.nx e) h = I e h := rfl
@[simp] theorem nxR_ret {I : Ev → Hs → Prop} {d : D} {h : Hs} : NxR I Q (.ret d) h = Q (.ok d) h := rfl
theorem wp_seqR {I : Ev → Hs → Prop} {g1 g2 : Ev → S} {e : Ev} {hs : Hs} (h1 : Wp (g1 e hs) (NxR I Q)) (h2 : ∀ e h, I e h → Wp (g2 e h) (onRun Q)) : Wp (seqS g1 g2 e hs) (onRun Q) := by
  rw [wp_seq]
  refine h1.mono fun r h q => ?_
  cases r with
  | nx e => exact h2 e h q
  | ret d => exact q
  | _ => exact q.elim
theorem kn1_loc {h : Hs} {n : Nat} {xs : List D} (e : cell h n = some (.lst xs)) : Kn1 h (.loc n) := ⟨.lst e, fun _ q => by cases q⟩
theorem kn2_loc {h : Hs} {n : Nat} {xs : List D} (e : cell h n = some (.lst xs)) : Kn2 h (.loc n) := ⟨.lst e, fun _ q => by cases q⟩
theorem kn2_dct {h : Hs} {n : Nat} {xs : List (D × D)} (e : cell h n = some (.dct xs)) : Kn2 h (.loc n) := ⟨.dct e, fun _ q => by cases q⟩
theorem kn1_of {h : Hs} {d : D} (e : ∀ xs, d ≠ .tup xs) (k : Kn h d) : Kn1 h d := ⟨k, fun xs q => absurd q (e xs)⟩
theorem kn2_of {h : Hs} {d : D} (e : ∀ xs, d ≠ .tup xs) (k : Kn h d) : Kn2 h d := ⟨k, fun xs q => absurd q (e xs)⟩
theorem kn1_tup {h : Hs} {xs : List D} (a : ∀ x ∈ xs, Kn h x) : Kn1 h (.tup xs) := ⟨.tup, fun ys q x hx => by cases q; exact a x hx⟩
theorem kn2_tup {h : Hs} {xs : List D} (a : ∀ x ∈ xs, Kn1 h x) : Kn2 h (.tup xs) := ⟨.tup, fun ys q x hx => by cases q; exact a x hx⟩
theorem kn1_non {h : Hs} : Kn1 h .non := ⟨.non, fun _ q => by cases q⟩
theorem kn2_kn1 {h : Hs} {d : D} (k : Kn2 h d) : Kn1 h d := ⟨k.1, fun xs q x hx => (k.2 xs q x hx).1⟩
theorem kn_rep {h : Hs} {n : Nat} : Kn1 h (.tup (List.replicate n .non)) := kn1_tup fun x hx => by rw [List.eq_of_mem_replicate hx]; exact .non
/-- the rows of a bent pattern -/
theorem kn_bend {h : Hs} {pat : List (List (Option Int))} {y : D} {a b : List D} (ha : ∀ x ∈ a, x ∈ pat.map encR) (hb : ∀ x ∈ b, x ∈ pat.map encR) (k : Kn1 h y) : Kn2 h (.tup (a ++ y :: b)) := by
  have rows : ∀ x ∈ pat.map encR, Kn1 h x := fun x hx => by
    obtain ⟨r, _, rfl⟩ := List.mem_map.mp hx
    exact kn_r r
  refine kn2_tup fun x hx => ?_
  rcases List.mem_append.mp hx with hx | hx
  · exact rows x (ha x hx)
  · rcases List.mem_cons.mp hx with rfl | hx
    · exact k
    · exact rows x (hb x hx)
theorem bent_nil {many : Int} (h : Pot p hs) (hm : 3 ≤ many ∧ many ≤ 5) (k : ∀ x h', Kn2 h' x → Pg p hs h' → Q (.ok x) h') : Wp (r__law_bent [.loc p, .int many, .tup []] hs) Q := by
  have hlt := h.lt
  unfold r__law_bent b__law_bent
  rw [wp_run]
  refine wp_seqR (I := fun _ _ => False) ?_ fun e h q => q.elim
  simp
  rw [one_mul (by omega)]
  have hL : ∃ L : List D, List.replicate many.toNat .non = L ∧ ∀ x ∈ L, x = .non := ⟨_, rfl, fun x hx => List.eq_of_mem_replicate hx⟩
  obtain ⟨L, e, hL⟩ := hL
  rw [e]
  simp
  have cut : ∀ x ∈ cutD L none (some 2), x = .non := fun x hx => hL x (by rw [cut_to (by decide)] at hx; exact List.mem_of_mem_take hx)
  have kL : ∀ h, Kn1 h (.tup L) := fun h => kn1_tup fun x hx => by rw [hL x hx]; exact .non
  have kC : ∀ h, Kn1 h (.tup (cutD L none (some 2))) := fun h => kn1_tup fun x hx => by rw [cut x hx]; exact .non
  generalize cutD L none (some 2) = C at *
  have gA := Pg.of h (.app (ys := [O.lst [], O.dct [], O.lst L, O.lst [D.loc hs.length, D.non, D.str (Str.ofString ""), D.int 0, D.loc (hs.length + 1), D.tup [D.tup []], D.tup [D.non], D.tup [D.tup C], D.tup [D.tup L, D.tup L], D.tup [D.loc (hs.length + 2)], D.tup [D.tup [D.tup L]]]]))
  have c0 : cell (hs ++ [O.lst [], O.dct [], O.lst L, O.lst [D.loc hs.length, D.non, D.str (Str.ofString ""), D.int 0, D.loc (hs.length + 1), D.tup [D.tup []], D.tup [D.non], D.tup [D.tup C], D.tup [D.tup L, D.tup L], D.tup [D.loc (hs.length + 2)], D.tup [D.tup [D.tup L]]]]) hs.length = some (.lst []) := cell_app (k := 0)
  have c1 : cell (hs ++ [O.lst [], O.dct [], O.lst L, O.lst [D.loc hs.length, D.non, D.str (Str.ofString ""), D.int 0, D.loc (hs.length + 1), D.tup [D.tup []], D.tup [D.non], D.tup [D.tup C], D.tup [D.tup L, D.tup L], D.tup [D.loc (hs.length + 2)], D.tup [D.tup [D.tup L]]]]) (hs.length + 1) = some (.dct []) := cell_app (k := 1)
  have c2 : cell (hs ++ [O.lst [], O.dct [], O.lst L, O.lst [D.loc hs.length, D.non, D.str (Str.ofString ""), D.int 0, D.loc (hs.length + 1), D.tup [D.tup []], D.tup [D.non], D.tup [D.tup C], D.tup [D.tup L, D.tup L], D.tup [D.loc (hs.length + 2)], D.tup [D.tup [D.tup L]]]]) (hs.length + 2) = some (.lst L) := cell_app (k := 2)
  have c3 : cell (hs ++ [O.lst [], O.dct [], O.lst L, O.lst [D.loc hs.length, D.non, D.str (Str.ofString ""), D.int 0, D.loc (hs.length + 1), D.tup [D.tup []], D.tup [D.non], D.tup [D.tup C], D.tup [D.tup L, D.tup L], D.tup [D.loc (hs.length + 2)], D.tup [D.tup [D.tup L]]]]) (hs.length + 2 + 1) = some (.lst [D.loc hs.length, D.non, D.str (Str.ofString ""), D.int 0, D.loc (hs.length + 1), D.tup [D.tup []], D.tup [D.non], D.tup [D.tup C], D.tup [D.tup L, D.tup L], D.tup [D.loc (hs.length + 2)], D.tup [D.tup [D.tup L]]]) := cell_app (k := 3)
  generalize hs ++ [O.lst [], O.dct [], O.lst L, O.lst [D.loc hs.length, D.non, D.str (Str.ofString ""), D.int 0, D.loc (hs.length + 1), D.tup [D.tup []], D.tup [D.non], D.tup [D.tup C], D.tup [D.tup L, D.tup L], D.tup [D.loc (hs.length + 2)], D.tup [D.tup [D.tup L]]]] = H at *
  refine any_ok gA.pot (.loc c3 (by omega)) (by simp) (by simp) fun x h1 hx g1 => ?_
  have c0 := g1.get c0 (by omega)
  have c1 := g1.get c1 (by omega)
  have c2 := g1.get c2 (by omega)
  simp
  refine k x _ ?_ (gA.trans g1)
  simp only [List.mem_cons, List.not_mem_nil, or_false] at hx
  rcases hx with rfl | rfl | rfl | rfl | rfl | rfl | rfl | rfl | rfl | rfl | rfl
  · exact kn2_loc c0
  · exact kn2_of (fun _ q => by cases q) .non
  · exact kn2_of (fun _ q => by cases q) .str
  · exact kn2_of (fun _ q => by cases q) .int
  · exact kn2_dct c1
  · exact kn2_tup fun x hx => by rw [List.mem_singleton.mp hx]; exact kn1_tup fun x hx => nomatch hx
  · exact kn2_tup fun x hx => by rw [List.mem_singleton.mp hx]; exact kn1_non
  · exact kn2_tup fun x hx => by rw [List.mem_singleton.mp hx]; exact kC _
  · exact kn2_tup fun x hx => by
      simp only [List.mem_cons, List.not_mem_nil, or_false, or_self] at hx
      rw [hx]; exact kL _
  · exact kn2_tup fun x hx => by rw [List.mem_singleton.mp hx]; exact kn1_loc c2
  · exact kn2_tup fun x hx => by rw [List.mem_singleton.mp hx]; exact kn1_tup fun y hy => by rw [List.mem_singleton.mp hy]; exact .tup
/-- where a row is to be bent -/
def BI (hs : Hs) (p : Nat) (many : Int) (pat : List (List (Option Int))) : Ev → Hs → Prop := fun e h => ∃ (r me kind : Int) (n : Nat) (row : List (Option Int)) (x3 x4 x9 x10 : Option D), e = [some (.loc p), some (.int many), some (encP pat), x3, x4, some (.int r), some (.int me), some (.loc n), some (.int kind), x9, x10] ∧ Pg p hs h ∧ hs.length ≤ n ∧ cell h n = some (.lst (row.map encO)) ∧ (0 ≤ r ∧ r < pat.length) ∧ (0 ≤ me ∧ me < many) ∧ (0 ≤ kind ∧ kind < 9) ∧ (row.length : Int) = many
theorem bent_start {many : Int} {pat : List (List (Option Int))} {g2 : Ev → S} (h : Pot p hs) (hm : 3 ≤ many ∧ many ≤ 5) (hp : patGood many pat) (hl : pat.length ≤ 30) (h0 : pat ≠ []) {e : Ev} {x3 x4 x5 x6 x7 x8 x9 x10 : Option D} (he : e = [some (.loc p), some (.int many), some (encP pat), x3, x4, x5, x6, x7, x8, x9, x10])
    (k : ∀ e h', BI hs p many pat e h' → Wp (g2 e h') (onRun Q)) : Wp ((seqS (asgS (.many [5, 6]) (tupM (consM (callF 2 r__law_draw (consM (varD 0) (consM (callM lenD (consM (varD 2) (fun _ => M.pure []))) (fun _ => M.pure [])))) (consM (callF 2 r__law_draw (consM (varD 0) (consM (varD 1) (fun _ => M.pure [])))) (fun _ => M.pure [])))))
  (seqS (asgS (.many [7, 8]) (tupM (consM (callM listD (consM (op2 ixD (varD 2) (varD 5)) (fun _ => M.pure []))) (consM (callF 2 r__law_draw (consM (varD 0) (consM (fun _ => M.pure (.int 9)) (fun _ => M.pure [])))) (fun _ => M.pure [])))))
  g2)) e hs) (onRun Q) := by
  subst he
  have hlt := h.lt
  have hpos : 0 < pat.length := List.length_pos_iff.mpr h0
  refine wp_seqR (I := fun e h' => ∃ r me : Int, e = [some (.loc p), some (.int many), some (encP pat), x3, x4, some (.int r), some (.int me), x7, x8, x9, x10] ∧ Pg p hs h' ∧ (0 ≤ r ∧ r < pat.length) ∧ (0 ≤ me ∧ me < many)) ?_ ?_
  · simp [encP]
    refine draw_ok (n := (pat.length : Nat)) h (by omega) (sm (by omega) (by omega)) fun v h1 v0 v1 g1 => ?_
    simp
    refine draw_ok g1.pot (by omega) (sm (by omega) (by omega)) fun w h2 w0 w1 g2 => ?_
    simp
    exact ⟨v, w, ⟨rfl, rfl⟩, g1.trans g2, ⟨v0, v1⟩, w0, w1⟩
  rintro e h1 ⟨r, me, rfl, g1, hr, hme⟩
  refine wp_seqR (I := BI hs p many pat) ?_ k
  have hr2 : r.toNat < pat.length := by omega
  have at1 : atI (pat.map encR) r = some (encR pat[r.toNat]) := atI_nat (by simp [hr2]) hr.1
  have good := hp _ (List.getElem_mem hr2)
  generalize pat[r.toNat] = row at *
  have le := g1.gr.le
  simp [encP, at1]
  simp [encR]
  refine draw_ok (g1.pot.gr .push) (by decide) (sm (by decide) (by decide)) fun v h2 v0 v1 g2 => ?_
  simp
  refine ⟨r, me, v, h1.length, row, x3, x4, x9, x10, ?_, (g1.trans (.push g1.pot)).trans g2, le, g2.get cell_push (by omega), hr, hme, ⟨v0, v1⟩, good.1⟩
  rfl
end
end DL.K50
set_option Elab.async false
set_option linter.all false
set_option maxRecDepth 100000
set_option maxHeartbeats 4000000
namespace DL.K50
open PySem PySem.Spec PyProof.Rows L2 DL

section
variable {p : Nat} {hs : Hs} {d s : D} {Q : Except Ex D → Hs → Prop}
theorem cut_mem {xs : List D} {lo hi : Option Int} {x : D} (h : x ∈ cutD xs lo hi) : x ∈ xs := List.mem_of_mem_drop (List.mem_of_mem_take h)
theorem cut_len {xs : List D} {lo hi : Option Int} : (cutD xs lo hi).length ≤ xs.length := by
  unfold cutD
  rw [List.length_take, List.length_drop]
  omega
def BF (hs : Hs) (p : Nat) (many : Int) (pat : List (List (Option Int))) : Ev → Hs → Prop := fun e h => ∃ (r : Int) (n : Nat) (ys : List D) (x3 x4 x6 x8 x9 x10 : Option D), e = [some (.loc p), some (.int many), some (encP pat), x3, x4, some (.int r), x6, some (.loc n), x8, x9, x10] ∧ Pg p hs h ∧ cell h n = some (.lst ys) ∧ ys.length ≤ 1000 ∧ ∀ y ∈ ys, Kn h y
noncomputable def finS : Ev → S := (seqS (retS (op2 (binD .Add) (op2 (binD .Add) (sliceM (varD 2) (fun _ => M.pure none) (fun v => M.bind ((varD 5) v) partD)) (tupM (consM (callM tupleD (consM (varD 7) (fun _ => M.pure []))) (fun _ => M.pure [])))) (sliceM (varD 2) (fun v => M.bind ((op2 (binD .Add) (varD 5) (fun _ => M.pure (.int 1))) v) partD) (fun _ => M.pure none))))
  nextS)
theorem bent_fin {many : Int} {pat : List (List (Option Int))} {e : Ev} {h : Hs} (hl : pat.length ≤ 30) (b : BF hs p many pat e h) (k : ∀ x h', Kn2 h' x → Pg p hs h' → Q (.ok x) h') : Wp (finS e h) (onRun Q) := by
  obtain ⟨r, n, ys, x3, x4, x6, x8, x9, x10, rfl, g, hc, hy, kn⟩ := b
  have c1 := cut_len (xs := pat.map encR) (lo := none) (hi := some r)
  have c2 := cut_len (xs := pat.map encR) (lo := some (r + 1)) (hi := none)
  rw [List.length_map] at c1 c2
  have key := kn_bend (h := h) (y := .tup ys) (a := cutD (pat.map encR) none (some r)) (b := cutD (pat.map encR) (some (r + 1)) none) (fun x hx => cut_mem hx) (fun x hx => cut_mem hx) (kn1_tup kn)
  unfold finS
  simp [encP, hc]
  exact ⟨sz (by omega), sz (by omega), k _ _ key g⟩
noncomputable def restS : Ev → S := (seqS (ifS (asTest (op2 (cmpD .Lt) (varD 8) (fun _ => M.pure (.int 4))))
  (seqS (setS (op2 (binD .Mod) (callM intD (consM (op2 (binD .Add) (op2 (binD .Add) (varD 6) (fun _ => M.pure (.int 1))) (callF 2 r__law_draw (consM (varD 0) (consM (op2 (binD .Sub) (varD 1) (fun _ => M.pure (.int 1))) (fun _ => M.pure []))))) (fun _ => M.pure []))) (varD 1)) (varD 7) (varD 6))
  nextS)
  (seqS (ifS (asTest (op2 (cmpD .Eq) (varD 8) (fun _ => M.pure (.int 4))))
  (seqS (setS (callF 2 r__law_any (consM (varD 0) (consM (lstM (consM (varD 6) (consM (varD 1) (consM (fun _ => M.pure (.int 7)) (consM (negV (fun _ => M.pure (.int 1))) (consM (fun _ => M.pure (.bl true)) (consM (fun _ => M.pure (.bl false)) (consM (fun _ => M.pure (.str "0")) (consM (tupM (consM (fun _ => M.pure (.int 0)) (fun _ => M.pure []))) (consM (lstM (consM (fun _ => M.pure (.int 0)) (fun _ => M.pure []))) (consM nilDict (consM (op2 (binD .Pow) (fun _ => M.pure (.int 10)) (fun _ => M.pure (.int 50))) (consM (callF 1 r__law_deep (consM (varD 0) (fun _ => M.pure []))) (fun _ => M.pure [])))))))))))))) (fun _ => M.pure [])))) (varD 7) (varD 6))
  nextS)
  (seqS (ifS (asTest (op2 (cmpD .Eq) (varD 8) (fun _ => M.pure (.int 5))))
  (seqS (asgS (.one 9) (callF 2 r__law_any (consM (varD 0) (consM (lstM (consM (callM tupleD (consM (sliceM (varD 7) (fun v => M.bind ((fun _ => M.pure (.int 1)) v) partD) (fun _ => M.pure none)) (fun _ => M.pure []))) (consM (op2 (binD .Add) (callM tupleD (consM (varD 7) (fun _ => M.pure []))) (tupM (consM (fun _ => M.pure .non) (fun _ => M.pure [])))) (consM (callM listD (consM (varD 7) (fun _ => M.pure []))) (consM (fun _ => M.pure .non) (consM (tupM (fun _ => M.pure [])) (consM (op2 (binD .Mult) (callM tupleD (consM (varD 7) (fun _ => M.pure []))) (fun _ => M.pure (.int 2))) (consM (fun _ => M.pure (.str "abc")) (fun _ => M.pure []))))))))) (fun _ => M.pure [])))))
  (seqS (retS (op2 (binD .Add) (op2 (binD .Add) (sliceM (varD 2) (fun _ => M.pure none) (fun v => M.bind ((varD 5) v) partD)) (tupM (consM (varD 9) (fun _ => M.pure [])))) (sliceM (varD 2) (fun v => M.bind ((op2 (binD .Add) (varD 5) (fun _ => M.pure (.int 1))) v) partD) (fun _ => M.pure none))))
  nextS))
  (seqS (ifS (asTest (op2 (cmpD .Eq) (varD 8) (fun _ => M.pure (.int 6))))
  (seqS (asgS (.one 10) (op2 (binD .Add) (varD 2) (tupM (consM (op2 (binD .Mult) (tupM (consM (fun _ => M.pure .non) (fun _ => M.pure []))) (op2 (binD .Add) (varD 1) (fun _ => M.pure (.int 1)))) (fun _ => M.pure [])))))
  (seqS (retS (callF 2 r__law_any (consM (varD 0) (consM (lstM (consM (callM listD (consM (varD 2) (fun _ => M.pure []))) (consM (op2 (binD .Add) (varD 2) (tupM (consM (fun _ => M.pure .non) (fun _ => M.pure [])))) (consM (varD 10) (consM (tupM (consM (varD 2) (fun _ => M.pure []))) (consM (op2 ixD (varD 2) (fun _ => M.pure (.int 0))) (fun _ => M.pure []))))))) (fun _ => M.pure [])))))
  nextS))
  (seqS (ifS (asTest (op2 (cmpD .Eq) (varD 8) (fun _ => M.pure (.int 7))))
  (seqS (retS (sliceM (op2 (binD .Mult) (varD 2) (fun _ => M.pure (.int 31))) (fun _ => M.pure none) (fun v => M.bind ((op2 (binD .Add) (fun _ => M.pure (.int 30)) (callF 2 r__law_draw (consM (varD 0) (consM (fun _ => M.pure (.int 2)) (fun _ => M.pure []))))) v) partD)))
  nextS)
  (seqS (retS (op2 (binD .Add) (revM (varD 2)) (sliceM (varD 2) (fun _ => M.pure none) (fun v => M.bind ((fun _ => M.pure (.int 1)) v) partD))))
  nextS))
  nextS))
  nextS))
  nextS))
  nextS))
  finS)
theorem ixN_in {n : Nat} {i : Int} (h0 : 0 ≤ i) (h : i < n) : ixN n i = some i.toNat := ixN_nat h0 h
theorem kn1_o {h : Hs} (o : Option Int) : Kn1 h (encO o) := by
  cases o
  · exact kn1_non
  · exact kn1_of (fun _ q => by cases q) .int
theorem setB_ {many : Int} {pat : List (List (Option Int))} {r : Int} {n j : Nat} {row : List (Option Int)} {y : D} {h : Hs} {x3 x4 x6 x8 x9 x10 : Option D} (hp : p < hs.length) (hn : hs.length ≤ n) (hrl : row.length ≤ 1000) (g : Pg p hs h) (hc : cell h n = some (.lst (row.map encO))) (ky : Kn h y) :
    BF hs p many pat [some (.loc p), some (.int many), some (encP pat), x3, x4, some (.int r), x6, some (.loc n), x8, x9, x10] (h.set n (.lst ((row.map encO).set j y))) := by
  refine ⟨r, n, _, x3, x4, x6, x8, x9, x10, rfl, g.set hn hp, by rw [cell_set_self (cell_lt hc)], by simp; omega, fun z hz => ?_⟩
  have up : ∀ {d : D}, Kn h d → Kn (h.set n (.lst ((row.map encO).set j y))) d := fun {d} k => by
    cases k with
    | non => exact .non
    | bl => exact .bl
    | int => exact .int
    | str => exact .str
    | tup => exact .tup
    | frl => exact .frl
    | @lst m xs e =>
      by_cases hm : m = n
      · subst hm; exact .lst (cell_set_self (cell_lt hc))
      · exact .lst ((cell_set_ne (Ne.symm hm)).trans e)
    | @dct m xs e =>
      by_cases hm : m = n
      · subst hm; exact .lst (cell_set_self (cell_lt hc))
      · exact .dct ((cell_set_ne (Ne.symm hm)).trans e)
  rcases List.mem_or_eq_of_mem_set hz with hz | rfl
  · obtain ⟨o, _, rfl⟩ := List.mem_map.mp hz
    exact kn_o o
  · exact up ky
theorem rest_ok {many : Int} {pat : List (List (Option Int))} {e : Ev} {h : Hs} (hm : 3 ≤ many ∧ many ≤ 5) (hl : pat.length ≤ 30) (h0 : pat ≠ []) (hp : p < hs.length) (b : BI hs p many pat e h) (k : ∀ x h', Kn2 h' x → Pg p hs h' → Q (.ok x) h') : Wp (restS e h) (onRun Q) := by
  obtain ⟨r, me, kind, n, row, x3, x4, x9, x10, rfl, g, hn, hc, hr, hme, hk, hrl⟩ := b
  have gp := g.pot
  have np : n ≠ p := by omega
  have hn2 := cell_lt hc
  have kr : ∀ h, ∀ y ∈ row.map encO, Kn h y := fun h y hy => by
    obtain ⟨o, _, rfl⟩ := List.mem_map.mp hy
    exact kn_o o
  have rows : ∀ h, ∀ x ∈ pat.map encR, Kn1 h x := fun h x hx => by
    obtain ⟨r, _, rfl⟩ := List.mem_map.mp hx
    exact kn_r r
  have setB : ∀ {j : Nat} {y : D} {h : Hs} {x8 : Option D}, Pg p hs h → cell h n = some (.lst (row.map encO)) → Kn h y → BF hs p many pat [some (.loc p), some (.int many), some (encP pat), x3, x4, some (.int r), some (.int me), some (.loc n), x8, x9, x10] (h.set n (.lst ((row.map encO).set j y))) := fun g hc ky => setB_ hp hn (by omega) g hc ky
  unfold restS
  by_cases k4 : kind < 4
  · refine wp_seqR (I := BF hs p many pat) ?_ fun e h b => bent_fin hl b k
    simp [k4]
    refine draw_ok gp (by omega) (sm (by omega) (by omega)) fun v h2 v0 v1 g2 => ?_
    have c2 := g2.get hc np
    simp [c2]
    exact ⟨by omega, me.toNat, ixN_in hme.1 (by omega), setB ((g.trans g2)) c2 .int⟩
  rcases (show kind = 4 ∨ kind = 5 ∨ kind = 6 ∨ kind = 7 ∨ kind = 8 by omega) with rfl | rfl | rfl | rfl | rfl
  · refine wp_seqR (I := BF hs p many pat) ?_ fun e h b => bent_fin hl b k
    simp
    have gA : Pg p h (h ++ [O.lst [D.int 0], O.dct []]) := .of gp .app
    have c0 : cell (h ++ [O.lst [D.int 0], O.dct []]) h.length = some (.lst [D.int 0]) := cell_app (k := 0)
    have c1 : cell (h ++ [O.lst [D.int 0], O.dct []]) (h.length + 1) = some (.dct []) := cell_app (k := 1)
    refine deep_ok gA.pot fun x h2 kx _ g2 => ?_
    simp
    refine any_ok (g2.pot.gr .push) (.loc cell_push (by have := gp.lt; have := g2.gr.le; simp at this; omega)) (by simp) (by simp) fun y h3 hy g3 => ?_
    have g23 : Pg p h2 h3 := (Pg.push g2.pot).trans g3
    have g4 : Pg p h h3 := (gA.trans g2).trans g23
    have ky : Kn h3 y := by
      have c0 := (g2.trans g23).get c0 (by have := gp.lt; omega)
      have c1 := (g2.trans g23).get c1 (by have := gp.lt; omega)
      have kx3 := Kn.pg kx.1 g23
      simp only [List.mem_cons, List.not_mem_nil, or_false] at hy
      rcases hy with rfl | rfl | rfl | rfl | rfl | rfl | rfl | rfl | rfl | rfl | rfl | rfl
      · exact .int
      · exact .int
      · exact .int
      · exact .int
      · exact .bl
      · exact .bl
      · exact .str
      · exact .tup
      · exact .lst c0
      · exact .dct c1
      · exact .int
      · exact kx3
    have c3 := g4.get hc np
    simp [c3]
    exact ⟨me.toNat, ixN_in hme.1 (by omega), setB (g.trans g4) c3 ky⟩
  · refine wp_seqR (I := fun _ _ => False) ?_ fun e h b => b.elim
    simp [hc]
    have kC : ∀ x ∈ cutD (row.map encO) (some 1) none, x ∈ row.map encO := fun x hx => cut_mem hx
    generalize cutD (row.map encO) (some 1) none = C at *
    have c1 : cell (h ++ [O.lst C]) n = some (.lst (row.map encO)) := (cell_push_lt hn2).trans hc
    have c2 : cell (h ++ [O.lst C, O.lst (row.map encO)]) n = some (.lst (row.map encO)) := (cell_app_lt hn2).trans hc
    refine ⟨_, c1, sz (by simp; omega), _, c1, _, c2, ?_⟩
    rw [wp_tup_mul ⟨by decide, by decide, by simp; omega⟩]
    have kM : ∀ x ∈ (List.replicate (2 : Int).toNat (row.map encO)).flatten, x ∈ row.map encO := fun x hx => by
      obtain ⟨l, hl, hx⟩ := List.mem_flatten.mp hx
      rwa [List.eq_of_mem_replicate hl] at hx
    generalize (List.replicate (2 : Int).toNat (row.map encO)).flatten = M at *
    have gA : Pg p h (h ++ [O.lst C, O.lst (row.map encO)]) := .of gp .app
    have c3 : cell (h ++ [O.lst C, O.lst (row.map encO)]) (h.length + 1) = some (.lst (row.map encO)) := cell_app (k := 1)
    have lA : (h ++ [O.lst C, O.lst (row.map encO)]).length = h.length + 2 := by simp
    generalize h ++ [O.lst C, O.lst (row.map encO)] = H at *
    refine any_ok (gA.pot.gr .push) (.loc cell_push (by have := gp.lt; omega)) (by simp) (by simp) fun y h3 hy g3 => ?_
    have g4 : Pg p H h3 := (Pg.push gA.pot).trans g3
    have ky : Kn1 h3 y := by
      have c3 := g4.get c3 (by have := gp.lt; omega)
      simp only [List.mem_cons, List.not_mem_nil, or_false] at hy
      rcases hy with rfl | rfl | rfl | rfl | rfl | rfl | rfl
      · exact kn1_tup fun x hx => kr _ x (kC x hx)
      · refine kn1_tup fun x hx => ?_
        rcases List.mem_append.mp hx with hx | hx
        · exact kr _ x hx
        · rw [List.mem_singleton.mp hx]; exact .non
      · exact kn1_loc c3
      · exact kn1_non
      · exact kn1_tup fun x hx => nomatch hx
      · exact kn1_tup fun x hx => kr _ x (kM x hx)
      · exact kn1_of (fun _ q => by cases q) .str
    have c1 := cut_len (xs := pat.map encR) (lo := none) (hi := some r)
    have c2 := cut_len (xs := pat.map encR) (lo := some (r + 1)) (hi := none)
    rw [List.length_map] at c1 c2
    have key := kn_bend (h := h3) (y := y) (a := cutD (pat.map encR) none (some r)) (b := cutD (pat.map encR) (some (r + 1)) none) (fun x hx => cut_mem hx) (fun x hx => cut_mem hx) ky
    simp [encP]
    exact ⟨sz (by omega), sz (by omega), k _ _ key ((g.trans gA).trans g4)⟩
  · refine wp_seqR (I := fun _ _ => False) ?_ fun e h b => b.elim
    simp [encP]
    rw [one_mul (by omega)]
    have kL : ∀ h, Kn1 h (.tup (List.replicate (many + 1).toNat .non)) := fun h => kn_rep
    generalize D.tup (List.replicate (many + 1).toNat .non) = L at *
    have hpos : 0 < pat.length := List.length_pos_iff.mpr h0
    refine ⟨sz (by omega), _, ⟨pat[0], by simp [hpos], rfl⟩, ?_⟩
    have gA : Pg p h (h ++ [O.lst (pat.map encR), O.lst [D.loc h.length, D.tup (pat.map encR ++ [D.non]), D.tup (pat.map encR ++ [L]), D.tup [D.tup (pat.map encR)], encR pat[0]]]) := .of gp .app
    have c0 : cell (h ++ [O.lst (pat.map encR), O.lst [D.loc h.length, D.tup (pat.map encR ++ [D.non]), D.tup (pat.map encR ++ [L]), D.tup [D.tup (pat.map encR)], encR pat[0]]]) h.length = some (.lst (pat.map encR)) := cell_app (k := 0)
    have c1 : cell (h ++ [O.lst (pat.map encR), O.lst [D.loc h.length, D.tup (pat.map encR ++ [D.non]), D.tup (pat.map encR ++ [L]), D.tup [D.tup (pat.map encR)], encR pat[0]]]) (h.length + 1) = some (.lst [D.loc h.length, D.tup (pat.map encR ++ [D.non]), D.tup (pat.map encR ++ [L]), D.tup [D.tup (pat.map encR)], encR pat[0]]) := cell_app (k := 1)
    generalize h ++ [O.lst (pat.map encR), O.lst [D.loc h.length, D.tup (pat.map encR ++ [D.non]), D.tup (pat.map encR ++ [L]), D.tup [D.tup (pat.map encR)], encR pat[0]]] = H at *
    refine any_ok gA.pot (.loc c1 (by have := gp.lt; omega)) (by simp) (by simp) fun y h3 hy g3 => ?_
    have ky : Kn2 h3 y := by
      have c0 := g3.get c0 (by have := gp.lt; omega)
      have snoc : ∀ z, Kn1 h3 z → Kn2 h3 (.tup (pat.map encR ++ [z])) := fun z kz => kn_bend (b := []) (fun x hx => hx) (fun x hx => nomatch hx) kz
      simp only [List.mem_cons, List.not_mem_nil, or_false] at hy
      rcases hy with rfl | rfl | rfl | rfl | rfl
      · exact kn2_loc c0
      · exact snoc _ kn1_non
      · exact snoc _ (kL _)
      · exact kn2_tup fun x hx => by rw [List.mem_singleton.mp hx]; exact kn1_tup fun x hx => (rows _ x hx).1
      · exact kn2_tup fun x hx => by
          obtain ⟨o, _, rfl⟩ := List.mem_map.mp hx
          exact kn1_o o
    simp
    exact k y _ ky ((g.trans gA).trans g3)
  · refine wp_seqR (I := fun _ _ => False) ?_ fun e h b => b.elim
    simp [encP]
    rw [wp_tup_mul ⟨by decide, by decide, by simp; omega⟩]
    have kM : ∀ x ∈ (List.replicate (31 : Int).toNat (pat.map encR)).flatten, x ∈ pat.map encR := fun x hx => by
      obtain ⟨l, hl, hx⟩ := List.mem_flatten.mp hx
      rwa [List.eq_of_mem_replicate hl] at hx
    generalize (List.replicate (31 : Int).toNat (pat.map encR)).flatten = M at *
    refine draw_ok gp (by decide) (sm (by decide) (by decide)) fun v h2 v0 v1 g2 => ?_
    simp
    exact k _ _ (kn2_tup fun x hx => rows _ x (kM x (cut_mem hx))) (g.trans g2)
  · refine wp_seqR (I := fun _ _ => False) ?_ fun e h b => b.elim
    simp [encP]
    have c1 := cut_len (xs := pat.map encR) (lo := none) (hi := some 1)
    rw [List.length_map] at c1
    refine ⟨sz (by omega), k _ _ (kn2_tup fun x hx => ?_) g⟩
    rcases List.mem_append.mp hx with hx | hx
    · exact rows _ x (List.mem_reverse.mp hx)
    · exact rows _ x (cut_mem hx)
theorem bent_ok {many : Int} {pat : List (List (Option Int))} (h : Pot p hs) (hm : 3 ≤ many ∧ many ≤ 5) (hp : patGood many pat) (hl : pat.length ≤ 30) (k : ∀ x h', Kn2 h' x → Pg p hs h' → Q (.ok x) h') : Wp (r__law_bent [.loc p, .int many, encP pat] hs) Q := by
  by_cases h0 : pat = []
  · subst h0
    exact bent_nil h hm k
  have hpos : 0 < pat.length := List.length_pos_iff.mpr h0
  have hne : ¬ pat.length = 0 := by omega
  unfold r__law_bent b__law_bent
  rw [wp_run]
  refine wp_seqR (I := fun e h => e = [some (.loc p), some (.int many), some (encP pat), none, none, none, none, none, none, none, none] ∧ hs = h) (by simp [encP, h0]) ?_
  rintro e h' ⟨rfl, rfl⟩
  exact bent_start (g2 := restS) h hm hp hl h0 rfl fun e h' b => rest_ok hm hl h0 h.lt b k
end
end DL.K50
set_option Elab.async false
set_option linter.all false
set_option maxRecDepth 100000
set_option maxHeartbeats 4000000
namespace DL.K50
open PySem PySem.Spec PyProof.Rows L2 DL

section
variable {p : Nat} {hs : Hs} {d s : D} {Q : Except Ex D → Hs → Prop}
theorem all_within {ss : List Int} (h : ∀ q ∈ ss, 0 ≤ q ∧ q ≤ 4) : (ss.map D.int).all (within 0 4) = true := by
  rw [List.all_map, List.all_eq_true]
  intro q hq
  simp [within, h q hq]
theorem map_intOf (ss : List Int) : (ss.map D.int).map intOf = ss := by
  rw [List.map_map]
  exact (List.map_congr_left fun _ _ => rfl).trans (List.map_id _)
theorem lot_good {ss : List Int} (h : someGood ss) : lotB (.tup (ss.map .int)) = true := by
  simp only [lotB, all_within h.2.1, map_intOf, h.1]
  rfl
theorem sp_ints {ss : List Int} {d : D} : sp (.tup (ss.map .int)) d = spareB ss d := by
  unfold sp itemsOf
  rw [map_intOf]
theorem lot_ints {s : D} (h : lotB s = true) : ∃ is : List Int, s = .tup (is.map .int) := by
  cases s with
  | tup xs =>
    simp only [lotB, Bool.and_eq_true] at h
    exact ⟨_, by rw [← all_ints h.1]⟩
  | _ => cases h
theorem row_in {ss : List Int} {r : List (Option Int)} (h : ∀ o ∈ r, entIn ss o) : rowIn ss (encR r) = true := by
  unfold rowIn itemsOf encR
  rw [List.all_map, List.all_eq_true]
  intro o ho
  cases o with
  | none => rfl
  | some q => simp [encO, inO, h _ ho q rfl]
theorem spare_good {many : Int} {ss : List Int} {pat : List (List (Option Int))} (hm : 3 ≤ many ∧ many ≤ 5) (hp : patGood many pat) (hl : pat.length ≤ 30) (hi : patIn ss pat) : spareB ss (encP pat) = true := by
  rw [← spare_same]
  have l30 : ((pat.map encR).length : Int) ≤ 30 := by simp; omega
  have all : (pat.map encR).all (rowB ss many) = true := by
    rw [List.all_map, List.all_eq_true]
    intro r hr
    simp [rowB, roundOk_enc (hp r hr), row_in (hi r hr)]
  unfold encP lawSp
  simp only [l30, decide_true, Bool.true_and]
  rcases (show many = 3 ∨ many = 4 ∨ many = 5 by omega) with rfl | rfl | rfl <;> rw [all] <;> simp
/-! ## what is told, written out -/
def letT (b : Bool) : Str := (PyData.tuple [.str "let", .bool b]).shown
def lotT : Str := (PyData.tuple [.str "lot", .none]).shown
theorem repr_let {b : Bool} {Q : D → Hs → Prop} : Wp (reprD [.tup [.str "let", .bl b]] hs) Q = Q (.str (letT b)) hs := by
  cases b
  · exact wp_repr (p := .tuple [.str "let", .bool false]) rfl (by decide +kernel) (by decide +kernel) (by decide +kernel) (sz (by decide +kernel))
  · exact wp_repr (p := .tuple [.str "let", .bool true]) rfl (by decide +kernel) (by decide +kernel) (by decide +kernel) (sz (by decide +kernel))
theorem repr_lot {Q : D → Hs → Prop} : Wp (reprD [.tup [.str "lot", .non]] hs) Q = Q (.str lotT) hs :=
  wp_repr (p := .tuple [.str "lot", .none]) rfl (by decide +kernel) (by decide +kernel) (by decide +kernel) (sz (by decide +kernel))
theorem eq_lot : eqD hs (.tup [.str "lot", .non]) (.tup [.str "lot", .non]) = some true := by
  rw [eqD_of (p := .tuple [.str "lot", .none]) (q := .tuple [.str "lot", .none]) rfl rfl (by decide +kernel) (by decide +kernel)]
  simp [PyData.eqv, PyData.eqvAll]
def NxI (I : Ev → Hs → Prop) : Fl → Hs → Prop := fun r h => match r with
  | .nx e => I e h
  | _ => False
@[simp] theorem nxI_nx {I : Ev → Hs → Prop} {e : Ev} {h : Hs} : NxI I (.nx e) h = I e h := rfl
theorem wp_seqI {I : Ev → Hs → Prop} {g1 g2 : Ev → S} {e : Ev} {hs : Hs} {Q : Fl → Hs → Prop} (h1 : Wp (g1 e hs) (NxI I)) (h2 : ∀ e h, I e h → Wp (g2 e h) Q) : Wp (seqS g1 g2 e hs) Q := by
  rw [wp_seq]
  refine h1.mono fun r h q => ?_
  cases r with
  | nx e => exact h2 e h q
  | _ => exact q.elim
/-- a turn's draws -/
def TI (sc : D) (p : Nat) : Ev → Hs → Prop := fun e h => ∃ (many rounds : Int) (ss : List Int) (pat : List (List (Option Int))) (x2 x7 x8 x9 x10 : Option D), e = [some sc, some (.loc p), x2, some (.int many), some (.int rounds), some (.tup (ss.map .int)), some (encP pat), x7, x8, x9, x10] ∧ Pot p h ∧ (3 ≤ many ∧ many ≤ 5) ∧ someGood ss ∧ pat.length ≤ 30 ∧ patGood many pat ∧ patIn ss pat
def T1 (sc : D) (p : Nat) : Ev → Hs → Prop := fun e h => ∃ (many rounds : Int) (ss : List Int) (x2 x6 x7 x8 x9 x10 : Option D), e = [some sc, some (.loc p), x2, some (.int many), some (.int rounds), some (.tup (ss.map .int)), x6, x7, x8, x9, x10] ∧ Pot p h ∧ (3 ≤ many ∧ many ≤ 5) ∧ (0 ≤ rounds ∧ rounds ≤ 30) ∧ someGood ss
def TO (sc : D) (p : Nat) : Ev → Hs → Prop := fun e h => ∃ (n : Nat) (xs : List D) (many rounds : Int) (ss : List Int) (pat : List (List (Option Int))) (x2 x7 x8 x10 : Option D), e = [some sc, some (.loc p), x2, some (.int many), some (.int rounds), some (.tup (ss.map .int)), some (encP pat), x7, x8, some (.loc n), x10] ∧ Pot p h ∧ (3 ≤ many ∧ many ≤ 5) ∧ someGood ss ∧ pat.length ≤ 30 ∧ patGood many pat ∧ patIn ss pat ∧ cell h n = some (.lst xs) ∧ n ≠ p ∧ xs.length ≤ 1000 ∧ xs ≠ [] ∧ ∀ x ∈ xs, Kn1 h x ∧ ∀ ys, x = .tup ys → ys.length ≤ 1000
def TX (sc : D) (p : Nat) : Ev → Hs → Prop := fun e h => ∃ (od : D) (many rounds : Int) (ss : List Int) (pat : List (List (Option Int))) (x2 x7 x8 x10 : Option D), e = [some sc, some (.loc p), x2, some (.int many), some (.int rounds), some (.tup (ss.map .int)), some (encP pat), x7, x8, some od, x10] ∧ Pot p h ∧ (3 ≤ many ∧ many ≤ 5) ∧ someGood ss ∧ pat.length ≤ 30 ∧ patGood many pat ∧ patIn ss pat ∧ Kn1 h od ∧ ∀ ys, od = .tup ys → ys.length ≤ 1000
theorem law_true (ns : List Int) (hl : ns.length ≤ 63) : Wp (r_law [.frl (ns.map D.int)] []) (okq fun d _ => d = .bl true) := by
  unfold r_law b_law
  rw [wp_run]
  simp only [wp_seq]
  simp
  refine pot_ok fun p h0 _ hp _ => ?_
  simp
  generalize D.frl (ns.map D.int) = sc
  refine wp_for (fun i e h => ∃ x2 x3 x4 x5 x6 x7 x8 x9 x10, e = [some sc, some (.loc p), x2, x3, x4, x5, x6, x7, x8, x9, x10] ∧ Pot p h) ⟨_, _, _, _, _, _, _, _, _, rfl, hp⟩ ?_ ?_
  · rintro i d e h hi ⟨x2, x3, x4, x5, x6, x7, x8, x9, x10, rfl, hp⟩
    refine ⟨trivial, ?_⟩
    simp only [bodyK_one]
    refine wp_seqI (I := T1 sc p) ?_ ?_
    · simp
      refine draw_ok hp (by decide) (sm (by decide) (by decide)) fun v h1 v0 v1 g1 => ?_
      simp
      refine any_ok (g1.pot.gr .push) (.loc cell_push (by have := g1.pot.lt; omega)) (by simp) (by simp) fun y h2 hy g2 => ?_
      obtain ⟨rounds, rfl, hr⟩ : ∃ rounds : Int, y = .int rounds ∧ 0 ≤ rounds ∧ rounds ≤ 30 := by
        simp only [List.mem_cons, List.not_mem_nil, or_false] at hy
        rcases hy with rfl | rfl | rfl | rfl | rfl | rfl <;> exact ⟨_, rfl, by decide, by decide⟩
      simp
      refine some_ok g2.pot fun ss h3 hss g3 => ?_
      simp
      exact ⟨_, rounds, ss, _, _, _, _, _, _, rfl, g3.pot, by omega, hr, hss⟩
    rintro e h1 ⟨many, rounds, ss, x2, x6, x7, x8, x9, x10, rfl, hp1, hm, hr, hss⟩
    refine wp_seqI (I := TI sc p) ?_ ?_
    · simp
      refine pattern_ok hp1 hss hm hr fun pat h2 pl pg pi g2 => ?_
      simp
      exact ⟨many, rounds, ss, pat, _, _, _, _, _, rfl, g2.pot, hm, hss, by omega, pg, pi⟩
    rintro e h2 ti
    refine wp_seqI (I := TI sc p) ?_ ?_
    · obtain ⟨many, rounds, ss, pat, x2, x7, x8, x9, x10, rfl, hp2, hm, hss, pl, pg, pi⟩ := ti
      simp
      refine told_ok (kn2_kn1 (kn2_tup fun x hx => ?_)) (fun xs e => ?_) (kn_p pat) fun h3 g3 => ?_
      · obtain ⟨q, _, rfl⟩ := List.mem_map.mp hx
        exact kn1_of (fun _ q => by cases q) .int
      · cases e; have := hss.2.2; simp; omega
      have e : toldD (.tup (ss.map .int)) (encP pat) = .tup [.str "let", .bl true] := by
        rw [toldD, if_pos (lot_good hss), sp_ints, spare_good hm pg pl pi]
      rw [e]
      simp
      rw [repr_let, repr_let]
      simp
      exact ⟨many, rounds, ss, pat, _, _, _, _, _, rfl, hp2.gr g3, hm, hss, pl, pg, pi⟩
    clear hp1 hm hr hss
    rintro e h3 ti
    refine wp_seqI (I := TI sc p) ?_ ?_
    · obtain ⟨many, rounds, ss, pat, x2, x7, x8, x9, x10, rfl, hp2, hm, hss, pl, pg, pi⟩ := ti
      simp
      refine draw_ok hp2 (by decide) (sm (by decide) (by decide)) fun v h4 v0 v1 g4 => ?_
      simp
      refine ⟨by omega, ?_⟩
      refine wp_for (fun i e h => ∃ x7 x8, e = [some sc, some (.loc p), x2, some (.int many), some (.int rounds), some (.tup (ss.map .int)), some (encP pat), x7, x8, x9, x10] ∧ Pot p h) ⟨_, _, rfl, g4.pot⟩ ?_ ?_
      · rintro i d e h hi ⟨x7, x8, rfl, hp⟩
        refine ⟨trivial, ?_⟩
        simp
        refine bent_ok hp hm pg pl fun y h5 ky g5 => ?_
        simp
        have k1 : ∀ h, Kn1 h (.tup (ss.map .int)) := fun h => kn1_tup fun x hx => by
          obtain ⟨q, _, rfl⟩ := List.mem_map.mp hx
          exact .int
        refine told_ok (k1 _) (fun xs e => by cases e; have := hss.2.2; simp; omega) ky fun h6 g6 => ?_
        rw [toldD, if_pos (lot_good hss), sp_ints]
        simp
        rw [repr_let]
        refine law_is_sparing_ok (ky.gr g6) fun h7 g7 => ?_
        rw [spare_same]
        simp
        rw [repr_let]
        simp
        exact g5.pot.gr (g6.trans g7)
      · rintro e h ⟨x7, x8, rfl, hp⟩
        refine ⟨trivial, ?_⟩
        simp
        exact ⟨many, rounds, ss, pat, _, _, _, _, _, rfl, hp, hm, hss, pl, pg, pi⟩
    rintro e h4 ti
    refine wp_seqI (I := TO sc p) ?_ ?_
    · obtain ⟨many, rounds, ss, pat, x2, x7, x8, x9, x10, rfl, hp2, hm, hss, pl, pg, pi⟩ := ti
      have kss : ∀ h, ∀ x ∈ ss.map D.int, Kn h x := fun h x hx => by
        obtain ⟨q, _, rfl⟩ := List.mem_map.mp hx
        exact .int
      have l5 := hss.2.2
      have cl := cut_len (xs := ss.map D.int) (lo := some (-1)) (hi := none)
      rw [List.length_map] at cl
      have cm : ∀ x ∈ cutD (ss.map D.int) (some (-1)) none, x ∈ ss.map D.int := fun x hx => cut_mem hx
      simp
      generalize cutD (ss.map D.int) (some (-1)) none = C at *
      refine ⟨sz (by omega), sz (by omega), sz (by omega), h4.length + 1, _, many, rounds, ss, pat, _, _, _, _, rfl, hp2.gr .app, hm, hss, pl, pg, pi, cell_app (k := 1), by have := hp2.lt; omega, by simp, by simp, fun x hx => ?_⟩
      have c0 : cell (h4 ++ [O.lst (List.map D.int ss), O.lst [D.tup (List.map D.int ss).reverse, D.tup (List.map D.int ss ++ [D.int 5]), D.tup (List.map D.int ss ++ C), D.loc (List.length h4), D.tup (D.int (-1) :: List.map D.int ss), D.tup [D.bl true], D.tup [D.bl false, D.int 1], D.tup [D.str (Str.ofString "0")]]]) h4.length = some (.lst (ss.map D.int)) := cell_app (k := 0)
      generalize h4 ++ [O.lst (List.map D.int ss), O.lst [D.tup (List.map D.int ss).reverse, D.tup (List.map D.int ss ++ [D.int 5]), D.tup (List.map D.int ss ++ C), D.loc (List.length h4), D.tup (D.int (-1) :: List.map D.int ss), D.tup [D.bl true], D.tup [D.bl false, D.int 1], D.tup [D.str (Str.ofString "0")]]] = H at *
      simp only [List.mem_cons, List.not_mem_nil, or_false] at hx
      rcases hx with rfl | rfl | rfl | rfl | rfl | rfl | rfl | rfl
      · exact ⟨kn1_tup fun x hx => kss _ x (List.mem_reverse.mp hx), fun ys e => by cases e; simp; omega⟩
      · refine ⟨kn1_tup fun x hx => ?_, fun ys e => by cases e; simp; omega⟩
        rcases List.mem_append.mp hx with hx | hx
        · exact kss _ x hx
        · rw [List.mem_singleton.mp hx]; exact .int
      · refine ⟨kn1_tup fun x hx => ?_, fun ys e => by cases e; simp; omega⟩
        rcases List.mem_append.mp hx with hx | hx
        · exact kss _ x hx
        · exact kss _ x (cm x hx)
      · exact ⟨kn1_loc c0, fun ys e => by cases e⟩
      · refine ⟨kn1_tup fun x hx => ?_, fun ys e => by cases e; simp; omega⟩
        rcases List.mem_cons.mp hx with rfl | hx
        · exact .int
        · exact kss _ x hx
      · exact ⟨kn1_tup fun x hx => by rw [List.mem_singleton.mp hx]; exact .bl, fun ys e => by cases e; simp⟩
      · refine ⟨kn1_tup fun x hx => ?_, fun ys e => by cases e; simp⟩
        simp only [List.mem_cons, List.not_mem_nil, or_false] at hx
        rcases hx with rfl | rfl
        · exact .bl
        · exact .int
      · exact ⟨kn1_tup fun x hx => by rw [List.mem_singleton.mp hx]; exact .str, fun ys e => by cases e; simp⟩
    rintro e h5 ⟨n, xs, many, rounds, ss, pat, x2, x7, x8, x10, rfl, hp2, hm, hss, pl, pg, pi, hc, np, xl, xn, hx⟩
    refine wp_seqI (I := TX sc p) ?_ ?_
    · simp [dispM]
      rw [wp_dispK (by simp [cell_app]) rfl]
      have e : (h5 ++ [O.dct [], O.dct []]).set (h5.length + 1) (.dct (([Sum.inl (0 : Int)].map kD).zip [D.int 1])) = h5 ++ [O.dct [], .dct (([Sum.inl (0 : Int)].map kD).zip [D.int 1])] := by simp
      rw [e]
      generalize (([Sum.inl (0 : Int)].map kD).zip [D.int 1]) = kvs
      simp
      have gA : Pg p h5 (h5 ++ [O.dct [], .dct kvs]) := .of hp2 .app
      have c0 : cell (h5 ++ [O.dct [], .dct kvs]) h5.length = some (.dct []) := cell_app (k := 0)
      have c1 : cell (h5 ++ [O.dct [], .dct kvs]) (h5.length + 1) = some (.dct kvs) := cell_app (k := 1)
      have lA : (h5 ++ [O.dct [], .dct kvs]).length = h5.length + 2 := by simp
      generalize h5 ++ [O.dct [], .dct kvs] = H at *
      have plt := hp2.lt
      refine deep_ok gA.pot fun z h6 kz lz g6 => ?_
      have g56 := gA.trans g6
      have cn := g56.get hc np
      have ln := cell_lt cn
      simp
      obtain ⟨T, hT⟩ : ∃ T, T = [D.non, D.int 3, D.str (Str.ofString ""), D.str (Str.ofString "01"), D.loc (List.length h5), D.loc (List.length h5 + 1), D.tup [D.tup [D.int 0]], D.tup [D.int 0, D.non], z, D.tup [D.int 1000000000000000000000000000000]] := ⟨_, rfl⟩
      rw [← hT]
      refine ⟨xs, (cell_app_lt ln).trans cn, sz (by omega), ?_⟩
      have gB : Pg p h6 (h6 ++ [O.lst T, O.lst (xs ++ T)]) := .of g56.pot .app
      have cB : cell (h6 ++ [O.lst T, O.lst (xs ++ T)]) (h6.length + 1) = some (.lst (xs ++ T)) := cell_app (k := 1)
      generalize h6 ++ [O.lst T, O.lst (xs ++ T)] = H2 at *
      have lT : T.length = 10 := by rw [hT]; rfl
      refine any_ok gB.pot (.loc cB (by have := g56.gr.le; omega)) (by simp [xn]) (by simp; omega) fun y h7 hy g7 => ?_
      have g67 := gB.trans g7
      have ky : Kn1 h7 y ∧ ∀ ys, y = .tup ys → ys.length ≤ 1000 := by
        rcases List.mem_append.mp hy with hy | hy
        · exact ⟨Kn1.pg (hx y hy).1 (g56.trans g67), (hx y hy).2⟩
        · have c0 := (g6.trans g67).get c0 (by omega)
          have c1 := (g6.trans g67).get c1 (by omega)
          have kz := Kn1.pg kz g67
          rw [hT] at hy
          simp only [List.mem_cons, List.not_mem_nil, or_false] at hy
          rcases hy with rfl | rfl | rfl | rfl | rfl | rfl | rfl | rfl | rfl | rfl
          · exact ⟨kn1_non, fun ys e => by cases e⟩
          · exact ⟨kn1_of (fun _ q => by cases q) .int, fun ys e => by cases e⟩
          · exact ⟨kn1_of (fun _ q => by cases q) .str, fun ys e => by cases e⟩
          · exact ⟨kn1_of (fun _ q => by cases q) .str, fun ys e => by cases e⟩
          · exact ⟨kn1_of (fun _ q => by cases q) (.dct c0), fun ys e => by cases e⟩
          · exact ⟨kn1_of (fun _ q => by cases q) (.dct c1), fun ys e => by cases e⟩
          · exact ⟨kn1_tup fun x hx => by rw [List.mem_singleton.mp hx]; exact .tup, fun ys e => by cases e; simp⟩
          · refine ⟨kn1_tup fun x hx => ?_, fun ys e => by cases e; simp⟩
            simp only [List.mem_cons, List.not_mem_nil, or_false] at hx
            rcases hx with rfl | rfl
            · exact .int
            · exact .non
          · exact ⟨kz, fun ys e => by have := lz ys e; omega⟩
          · exact ⟨kn1_tup fun x hx => by rw [List.mem_singleton.mp hx]; exact .int, fun ys e => by cases e; simp⟩
      simp
      exact ⟨y, many, rounds, ss, pat, _, _, _, _, rfl, g67.pot, hm, hss, pl, pg, pi, ky.1, ky.2⟩
    rintro e h6 ⟨od, many, rounds, ss, pat, x2, x7, x8, x10, rfl, hp2, hm, hss, pl, pg, pi, k1, kl⟩
    refine wp_seqI (I := fun e h => e = [some sc, some (.loc p), x2, some (.int many), some (.int rounds), some (.tup (ss.map .int)), some (encP pat), x7, x8, some od, some (toldD od (encP pat))] ∧ Gr [] h6 h) ?_ ?_
    · simp
      refine law_is_lot_ok k1 kl fun h7 g7 => ?_
      simp
      cases e : lotB od with
      | false =>
        simp [toldD, e]
        exact g7
      | true =>
        obtain ⟨is, rfl⟩ := lot_ints e
        simp
        refine law_is_sparing_ok (kn_p pat) fun h8 g8 => ?_
        simp [toldD, e, sp_ints, spare_same]
        exact g7.trans g8
    rintro e h7 ⟨rfl, g7⟩
    refine wp_seqI (I := fun e h => e = [some sc, some (.loc p), x2, some (.int many), some (.int rounds), some (.tup (ss.map .int)), some (encP pat), x7, x8, some od, some (toldD od (encP pat))] ∧ Gr [] h6 h) ?_ ?_
    · simp
      refine told_ok (k1.gr g7) kl (kn_p pat) fun h8 g8 => ?_
      simp
      cases e : lotB od with
      | false =>
        simp [toldD, e, repr_lot]
        exact g7.trans g8
      | true =>
        simp [toldD, e, repr_let]
        exact g7.trans g8
    rintro e h8 ⟨rfl, g8⟩
    simp
    refine law_is_lot_ok (k1.gr g8) kl fun h9 g9 => ?_
    cases e : lotB od with
    | true =>
      simp
      exact hp2.gr (g8.trans g9)
    | false =>
      simp
      refine bent_ok (hp2.gr (g8.trans g9)) hm pg pl fun y h10 ky g10 => ?_
      simp
      refine told_ok (Kn1.pg (k1.gr (g8.trans g9)) g10) kl ky fun h11 g11 => ?_
      simp [toldD, e, eq_lot]
      exact g10.pot.gr g11
  · rintro e h ⟨x2, x3, x4, x5, x6, x7, x8, x9, x10, rfl, hp⟩
    refine ⟨trivial, ?_⟩
    simp
end
end DL.K50
set_option Elab.async false
set_option linter.all false
set_option maxRecDepth 100000
set_option maxHeartbeats 4000000
namespace DL.K50
open PySem PySem.Spec PyProof.Rows L2 DL

/-! ## each def -/
section
variable {P : Program} {w : World} {K : PySem.W.Frag} {mg : Str → Option Value} {base : Heap}
theorem sc__law_pot : FnScope c__law_pot.N ["_law_script"] (defScope s__law_pot) := ⟨rfl, rfl, rfl, by decide +kernel, rfl, by decide +kernel, by decide +kernel⟩
theorem ok__law_pot {k : Nat} {a : Addr} {fd : FuncData} (F : Fun K "_law_pot" "_law_pot" s__law_pot a fd) (G : GAll P w K mg base k g__law_pot) : FnG P w K mg base (L2.CX P w) (k + 1) a fd ["_law_script"] (spD K mg 1 r__law_pot) := by
  have q := fn_okD (C := c__law_pot) F sc__law_pot rfl (hg := fun x g e => G _ (PySem.mem_of_lookup e))
  rw [eq__law_pot] at q
  exact q
theorem sc__law_draw : FnScope c__law_draw.N ["_law_pot_here", "_law_many"] (defScope s__law_draw) := ⟨rfl, rfl, rfl, by decide +kernel, rfl, by decide +kernel, by decide +kernel⟩
theorem ok__law_draw {k : Nat} {a : Addr} {fd : FuncData} (F : Fun K "_law_draw" "_law_draw" s__law_draw a fd) (G : GAll P w K mg base k g__law_draw) : FnG P w K mg base (L2.CX P w) (k + 1) a fd ["_law_pot_here", "_law_many"] (spD K mg 2 r__law_draw) := by
  have q := fn_okD (C := c__law_draw) F sc__law_draw rfl (hg := fun x g e => G _ (PySem.mem_of_lookup e))
  rw [eq__law_draw] at q
  exact q
theorem sc__law_any : FnScope c__law_any.N ["_law_pot_here", "_law_things"] (defScope s__law_any) := ⟨rfl, rfl, rfl, by decide +kernel, rfl, by decide +kernel, by decide +kernel⟩
theorem ok__law_any {k : Nat} {a : Addr} {fd : FuncData} (F : Fun K "_law_any" "_law_any" s__law_any a fd) (G : GAll P w K mg base k g__law_any) : FnG P w K mg base (L2.CX P w) (k + 1) a fd ["_law_pot_here", "_law_things"] (spD K mg 2 r__law_any) := by
  have q := fn_okD (C := c__law_any) F sc__law_any rfl (hg := fun x g e => G _ (PySem.mem_of_lookup e))
  rw [eq__law_any] at q
  exact q
theorem sc__law_entry : FnScope c__law_entry.N ["_law_pot_here", "_law_many", "_law_me", "_law_some_here"] (defScope s__law_entry) := ⟨rfl, rfl, rfl, by decide +kernel, rfl, by decide +kernel, by decide +kernel⟩
theorem ok__law_entry {k : Nat} {a : Addr} {fd : FuncData} (F : Fun K "_law_entry" "_law_entry" s__law_entry a fd) (G : GAll P w K mg base k g__law_entry) : FnG P w K mg base (L2.CX P w) (k + 1) a fd ["_law_pot_here", "_law_many", "_law_me", "_law_some_here"] (spD K mg 4 r__law_entry) := by
  have q := fn_okD (C := c__law_entry) F sc__law_entry rfl (hg := fun x g e => G _ (PySem.mem_of_lookup e))
  rw [eq__law_entry] at q
  exact q
theorem sc__law_pattern : FnScope c__law_pattern.N ["_law_pot_here", "_law_many", "_law_rounds", "_law_some_here"] (defScope s__law_pattern) := ⟨rfl, rfl, rfl, by decide +kernel, rfl, by decide +kernel, by decide +kernel⟩
theorem ok__law_pattern {k : Nat} {a : Addr} {fd : FuncData} (F : Fun K "_law_pattern" "_law_pattern" s__law_pattern a fd) (G : GAll P w K mg base k g__law_pattern) : FnG P w K mg base (L2.CX P w) (k + 1) a fd ["_law_pot_here", "_law_many", "_law_rounds", "_law_some_here"] (spD K mg 4 r__law_pattern) := by
  have q := fn_okD (C := c__law_pattern) F sc__law_pattern rfl (hg := fun x g e => G _ (PySem.mem_of_lookup e))
  rw [eq__law_pattern] at q
  exact q
theorem sc__law_some : FnScope c__law_some.N ["_law_pot_here"] (defScope s__law_some) := ⟨rfl, rfl, rfl, by decide +kernel, rfl, by decide +kernel, by decide +kernel⟩
theorem ok__law_some {k : Nat} {a : Addr} {fd : FuncData} (F : Fun K "_law_some" "_law_some" s__law_some a fd) (G : GAll P w K mg base k g__law_some) : FnG P w K mg base (L2.CX P w) (k + 1) a fd ["_law_pot_here"] (spD K mg 1 r__law_some) := by
  have q := fn_okD (C := c__law_some) F sc__law_some rfl (hg := fun x g e => G _ (PySem.mem_of_lookup e))
  rw [eq__law_some] at q
  exact q
theorem sc__law_deep : FnScope c__law_deep.N ["_law_pot_here"] (defScope s__law_deep) := ⟨rfl, rfl, rfl, by decide +kernel, rfl, by decide +kernel, by decide +kernel⟩
theorem ok__law_deep {k : Nat} {a : Addr} {fd : FuncData} (F : Fun K "_law_deep" "_law_deep" s__law_deep a fd) (G : GAll P w K mg base k g__law_deep) : FnG P w K mg base (L2.CX P w) (k + 1) a fd ["_law_pot_here"] (spD K mg 1 r__law_deep) := by
  have q := fn_okD (C := c__law_deep) F sc__law_deep rfl (hg := fun x g e => G _ (PySem.mem_of_lookup e))
  rw [eq__law_deep] at q
  exact q
theorem sc__law_bent : FnScope c__law_bent.N ["_law_pot_here", "_law_many", "_law_pattern_here"] (defScope s__law_bent) := ⟨rfl, rfl, rfl, by decide +kernel, rfl, by decide +kernel, by decide +kernel⟩
theorem ok__law_bent {k : Nat} {a : Addr} {fd : FuncData} (F : Fun K "_law_bent" "_law_bent" s__law_bent a fd) (G : GAll P w K mg base k g__law_bent) : FnG P w K mg base (L2.CX P w) (k + 1) a fd ["_law_pot_here", "_law_many", "_law_pattern_here"] (spD K mg 3 r__law_bent) := by
  have q := fn_okD (C := c__law_bent) F sc__law_bent rfl (hg := fun x g e => G _ (PySem.mem_of_lookup e))
  rw [eq__law_bent] at q
  exact q
theorem sc__law_is_int : FnScope c__law_is_int.N ["_law_thing", "_law_least", "_law_most"] (defScope s__law_is_int) := ⟨rfl, rfl, rfl, by decide +kernel, rfl, by decide +kernel, by decide +kernel⟩
theorem ok__law_is_int {k : Nat} {a : Addr} {fd : FuncData} (F : Fun K "_law_is_int" "_law_is_int" s__law_is_int a fd) (G : GAll P w K mg base k g__law_is_int) : FnG P w K mg base (L2.CX P w) (k + 1) a fd ["_law_thing", "_law_least", "_law_most"] (spD K mg 3 r__law_is_int) := by
  have q := fn_okD (C := c__law_is_int) F sc__law_is_int rfl (hg := fun x g e => G _ (PySem.mem_of_lookup e))
  rw [eq__law_is_int] at q
  exact q
theorem sc__law_is_lot : FnScope c__law_is_lot.N ["_law_thing"] (defScope s__law_is_lot) := ⟨rfl, rfl, rfl, by decide +kernel, rfl, by decide +kernel, by decide +kernel⟩
theorem ok__law_is_lot {k : Nat} {a : Addr} {fd : FuncData} (F : Fun K "_law_is_lot" "_law_is_lot" s__law_is_lot a fd) (G : GAll P w K mg base k g__law_is_lot) : FnG P w K mg base (L2.CX P w) (k + 1) a fd ["_law_thing"] (spD K mg 1 r__law_is_lot) := by
  have q := fn_okD (C := c__law_is_lot) F sc__law_is_lot rfl (hg := fun x g e => G _ (PySem.mem_of_lookup e))
  rw [eq__law_is_lot] at q
  exact q
theorem sc_are_rising : FnScope c_are_rising.N ["things"] (defScope s_are_rising) := ⟨rfl, rfl, rfl, by decide +kernel, rfl, by decide +kernel, by decide +kernel⟩
theorem ok_are_rising {k : Nat} {a : Addr} {fd : FuncData} (F : Fun K "are_rising" "are_rising" s_are_rising a fd) (G : GAll P w K mg base k g_are_rising) : FnG P w K mg base (L2.CX P w) (k + 1) a fd ["things"] (spD K mg 1 r_are_rising) := by
  have q := fn_okD (C := c_are_rising) F sc_are_rising rfl (hg := fun x g e => G _ (PySem.mem_of_lookup e))
  rw [eq_are_rising] at q
  exact q
theorem sc_is_integer : FnScope c_is_integer.N ["thing"] (defScope s_is_integer) := ⟨rfl, rfl, rfl, by decide +kernel, rfl, by decide +kernel, by decide +kernel⟩
theorem ok_is_integer {k : Nat} {a : Addr} {fd : FuncData} (F : Fun K "is_integer" "is_integer" s_is_integer a fd) (G : GAll P w K mg base k g_is_integer) : FnG P w K mg base (L2.CX P w) (k + 1) a fd ["thing"] (spD K mg 1 r_is_integer) := by
  have q := fn_okD (C := c_is_integer) F sc_is_integer rfl (hg := fun x g e => G _ (PySem.mem_of_lookup e))
  rw [eq_is_integer] at q
  exact q
theorem sc_is_within : FnScope c_is_within.N ["thing", "least", "most"] (defScope s_is_within) := ⟨rfl, rfl, rfl, by decide +kernel, rfl, by decide +kernel, by decide +kernel⟩
theorem ok_is_within {k : Nat} {a : Addr} {fd : FuncData} (F : Fun K "is_within" "is_within" s_is_within a fd) (G : GAll P w K mg base k g_is_within) : FnG P w K mg base (L2.CX P w) (k + 1) a fd ["thing", "least", "most"] (spD K mg 3 r_is_within) := by
  have q := fn_okD (C := c_is_within) F sc_is_within rfl (hg := fun x g e => G _ (PySem.mem_of_lookup e))
  rw [eq_is_within] at q
  exact q
theorem sc_is_lot_below : FnScope c_is_lot_below.N ["thing", "many"] (defScope s_is_lot_below) := ⟨rfl, rfl, rfl, by decide +kernel, rfl, by decide +kernel, by decide +kernel⟩
theorem ok_is_lot_below {k : Nat} {a : Addr} {fd : FuncData} (F : Fun K "is_lot_below" "is_lot_below" s_is_lot_below a fd) (G : GAll P w K mg base k g_is_lot_below) : FnG P w K mg base (L2.CX P w) (k + 1) a fd ["thing", "many"] (spD K mg 2 r_is_lot_below) := by
  have q := fn_okD (C := c_is_lot_below) F sc_is_lot_below rfl (hg := fun x g e => G _ (PySem.mem_of_lookup e))
  rw [eq_is_lot_below] at q
  exact q
theorem sc_is_sized : FnScope c_is_sized.N ["thing", "least", "most"] (defScope s_is_sized) := ⟨rfl, rfl, rfl, by decide +kernel, rfl, by decide +kernel, by decide +kernel⟩
theorem ok_is_sized {k : Nat} {a : Addr} {fd : FuncData} (F : Fun K "is_sized" "is_sized" s_is_sized a fd) (G : GAll P w K mg base k g_is_sized) : FnG P w K mg base (L2.CX P w) (k + 1) a fd ["thing", "least", "most"] (spD K mg 3 r_is_sized) := by
  have q := fn_okD (C := c_is_sized) F sc_is_sized rfl (hg := fun x g e => G _ (PySem.mem_of_lookup e))
  rw [eq_is_sized] at q
  exact q
theorem sc_is_miss : FnScope c_is_miss.N ["many", "me", "thing"] (defScope s_is_miss) := ⟨rfl, rfl, rfl, by decide +kernel, rfl, by decide +kernel, by decide +kernel⟩
theorem ok_is_miss {k : Nat} {a : Addr} {fd : FuncData} (F : Fun K "is_miss" "is_miss" s_is_miss a fd) (G : GAll P w K mg base k g_is_miss) : FnG P w K mg base (L2.CX P w) (k + 1) a fd ["many", "me", "thing"] (spD K mg 3 r_is_miss) := by
  have q := fn_okD (C := c_is_miss) F sc_is_miss rfl (hg := fun x g e => G _ (PySem.mem_of_lookup e))
  rw [eq_is_miss] at q
  exact q
theorem sc_is_round : FnScope c_is_round.N ["many", "thing"] (defScope s_is_round) := ⟨rfl, rfl, rfl, by decide +kernel, rfl, by decide +kernel, by decide +kernel⟩
theorem ok_is_round {k : Nat} {a : Addr} {fd : FuncData} (F : Fun K "is_round" "is_round" s_is_round a fd) (G : GAll P w K mg base k g_is_round) : FnG P w K mg base (L2.CX P w) (k + 1) a fd ["many", "thing"] (spD K mg 2 r_is_round) := by
  have q := fn_okD (C := c_is_round) F sc_is_round rfl (hg := fun x g e => G _ (PySem.mem_of_lookup e))
  rw [eq_is_round] at q
  exact q
theorem sc_is_pattern_of : FnScope c_is_pattern_of.N ["many", "rounds", "thing"] (defScope s_is_pattern_of) := ⟨rfl, rfl, rfl, by decide +kernel, rfl, by decide +kernel, by decide +kernel⟩
theorem ok_is_pattern_of {k : Nat} {a : Addr} {fd : FuncData} (F : Fun K "is_pattern_of" "is_pattern_of" s_is_pattern_of a fd) (G : GAll P w K mg base k g_is_pattern_of) : FnG P w K mg base (L2.CX P w) (k + 1) a fd ["many", "rounds", "thing"] (spD K mg 3 r_is_pattern_of) := by
  have q := fn_okD (C := c_is_pattern_of) F sc_is_pattern_of rfl (hg := fun x g e => G _ (PySem.mem_of_lookup e))
  rw [eq_is_pattern_of] at q
  exact q
theorem sc_is_sparing : FnScope c_is_sparing.N ["some", "thing"] (defScope s_is_sparing) := ⟨rfl, rfl, rfl, by decide +kernel, rfl, by decide +kernel, by decide +kernel⟩
theorem ok_is_sparing {k : Nat} {a : Addr} {fd : FuncData} (F : Fun K "is_sparing" "is_sparing" s_is_sparing a fd) (G : GAll P w K mg base k g_is_sparing) : FnG P w K mg base (L2.CX P w) (k + 1) a fd ["some", "thing"] (spD K mg 2 r_is_sparing) := by
  have q := fn_okD (C := c_is_sparing) F sc_is_sparing rfl (hg := fun x g e => G _ (PySem.mem_of_lookup e))
  rw [eq_is_sparing] at q
  exact q
theorem sc__law_told : FnScope c__law_told.N ["_law_some_here", "_law_thing"] (defScope s__law_told) := ⟨rfl, rfl, rfl, by decide +kernel, rfl, by decide +kernel, by decide +kernel⟩
theorem ok__law_told {k : Nat} {a : Addr} {fd : FuncData} (F : Fun K "_law_told" "_law_told" s__law_told a fd) (G : GAll P w K mg base k g__law_told) : FnG P w K mg base (L2.CX P w) (k + 1) a fd ["_law_some_here", "_law_thing"] (spD K mg 2 r__law_told) := by
  have q := fn_okD (C := c__law_told) F sc__law_told rfl (hg := fun x g e => G _ (PySem.mem_of_lookup e))
  rw [eq__law_told] at q
  exact q
theorem sc__law_is_row : FnScope c__law_is_row.N ["_law_thing", "_law_many", "_law_some_here"] (defScope s__law_is_row) := ⟨rfl, rfl, rfl, by decide +kernel, rfl, by decide +kernel, by decide +kernel⟩
theorem ok__law_is_row {k : Nat} {a : Addr} {fd : FuncData} (F : Fun K "_law_is_row" "_law_is_row" s__law_is_row a fd) (G : GAll P w K mg base k g__law_is_row) : FnG P w K mg base (L2.CX P w) (k + 1) a fd ["_law_thing", "_law_many", "_law_some_here"] (spD K mg 3 r__law_is_row) := by
  have q := fn_okD (C := c__law_is_row) F sc__law_is_row rfl (hg := fun x g e => G _ (PySem.mem_of_lookup e))
  rw [eq__law_is_row] at q
  exact q
theorem sc__law_is_sparing : FnScope c__law_is_sparing.N ["_law_some_here", "_law_thing"] (defScope s__law_is_sparing) := ⟨rfl, rfl, rfl, by decide +kernel, rfl, by decide +kernel, by decide +kernel⟩
theorem ok__law_is_sparing {k : Nat} {a : Addr} {fd : FuncData} (F : Fun K "_law_is_sparing" "_law_is_sparing" s__law_is_sparing a fd) (G : GAll P w K mg base k g__law_is_sparing) : FnG P w K mg base (L2.CX P w) (k + 1) a fd ["_law_some_here", "_law_thing"] (spD K mg 2 r__law_is_sparing) := by
  have q := fn_okD (C := c__law_is_sparing) F sc__law_is_sparing rfl (hg := fun x g e => G _ (PySem.mem_of_lookup e))
  rw [eq__law_is_sparing] at q
  exact q
theorem sc_law : FnScope c_law.N ["_law_script"] (defScope s_law) := ⟨rfl, rfl, rfl, by decide +kernel, rfl, by decide +kernel, by decide +kernel⟩
theorem ok_law {k : Nat} {a : Addr} {fd : FuncData} (F : Fun K "law" "law" s_law a fd) (G : GAll P w K mg base k g_law) : FnG P w K mg base (L2.CX P w) (k + 1) a fd ["_law_script"] (spD K mg 1 r_law) := by
  have q := fn_okD (C := c_law) F sc_law rfl (hg := fun x g e => G _ (PySem.mem_of_lookup e))
  rw [eq_law] at q
  exact q
end
/-! ## what the top has written -/
theorem all_mk {l : PySem.W.OpenLaw} {w : World} {K : PySem.W.Frag} {h : Heap} {mg : Str → Option Value} {fa : Addr} (X : K.In h) (G : h.Ns mainGlobals mg) (hfa : mg "law" = some (.ref fa))
    {f__law_pot : Addr} {od__law_pot an__law_pot : Option Addr} {sl__law_pot : Array (Option Value)} {oc__law_pot kV__law_pot dc__law_pot pm__law_pot cd__law_pot ct__law_pot : Value} (a__law_pot : PySem.W.nsIn K mainGlobals "_law_pot" = some (some (.ref f__law_pot))) (l__law_pot : K.lookup f__law_pot = some ⟨oc__law_pot, od__law_pot, .func (PySem.W.fnOf "_law_pot" "_law_pot" (defArgs s__law_pot) (defBody s__law_pot) (defScope s__law_pot) .none kV__law_pot dc__law_pot pm__law_pot an__law_pot cd__law_pot ct__law_pot), sl__law_pot⟩) (c__law_pot_ : PySem.W.codeIn K cd__law_pot "_law_pot" = true) (k__law_pot : PySem.W.keepIn K (.ref f__law_pot) = true)
    {f__law_draw : Addr} {od__law_draw an__law_draw : Option Addr} {sl__law_draw : Array (Option Value)} {oc__law_draw kV__law_draw dc__law_draw pm__law_draw cd__law_draw ct__law_draw : Value} (a__law_draw : PySem.W.nsIn K mainGlobals "_law_draw" = some (some (.ref f__law_draw))) (l__law_draw : K.lookup f__law_draw = some ⟨oc__law_draw, od__law_draw, .func (PySem.W.fnOf "_law_draw" "_law_draw" (defArgs s__law_draw) (defBody s__law_draw) (defScope s__law_draw) .none kV__law_draw dc__law_draw pm__law_draw an__law_draw cd__law_draw ct__law_draw), sl__law_draw⟩) (c__law_draw_ : PySem.W.codeIn K cd__law_draw "_law_draw" = true) (k__law_draw : PySem.W.keepIn K (.ref f__law_draw) = true)
    {f__law_any : Addr} {od__law_any an__law_any : Option Addr} {sl__law_any : Array (Option Value)} {oc__law_any kV__law_any dc__law_any pm__law_any cd__law_any ct__law_any : Value} (a__law_any : PySem.W.nsIn K mainGlobals "_law_any" = some (some (.ref f__law_any))) (l__law_any : K.lookup f__law_any = some ⟨oc__law_any, od__law_any, .func (PySem.W.fnOf "_law_any" "_law_any" (defArgs s__law_any) (defBody s__law_any) (defScope s__law_any) .none kV__law_any dc__law_any pm__law_any an__law_any cd__law_any ct__law_any), sl__law_any⟩) (c__law_any_ : PySem.W.codeIn K cd__law_any "_law_any" = true) (k__law_any : PySem.W.keepIn K (.ref f__law_any) = true)
    {f__law_entry : Addr} {od__law_entry an__law_entry : Option Addr} {sl__law_entry : Array (Option Value)} {oc__law_entry kV__law_entry dc__law_entry pm__law_entry cd__law_entry ct__law_entry : Value} (a__law_entry : PySem.W.nsIn K mainGlobals "_law_entry" = some (some (.ref f__law_entry))) (l__law_entry : K.lookup f__law_entry = some ⟨oc__law_entry, od__law_entry, .func (PySem.W.fnOf "_law_entry" "_law_entry" (defArgs s__law_entry) (defBody s__law_entry) (defScope s__law_entry) .none kV__law_entry dc__law_entry pm__law_entry an__law_entry cd__law_entry ct__law_entry), sl__law_entry⟩) (c__law_entry_ : PySem.W.codeIn K cd__law_entry "_law_entry" = true) (k__law_entry : PySem.W.keepIn K (.ref f__law_entry) = true)
    {f__law_pattern : Addr} {od__law_pattern an__law_pattern : Option Addr} {sl__law_pattern : Array (Option Value)} {oc__law_pattern kV__law_pattern dc__law_pattern pm__law_pattern cd__law_pattern ct__law_pattern : Value} (a__law_pattern : PySem.W.nsIn K mainGlobals "_law_pattern" = some (some (.ref f__law_pattern))) (l__law_pattern : K.lookup f__law_pattern = some ⟨oc__law_pattern, od__law_pattern, .func (PySem.W.fnOf "_law_pattern" "_law_pattern" (defArgs s__law_pattern) (defBody s__law_pattern) (defScope s__law_pattern) .none kV__law_pattern dc__law_pattern pm__law_pattern an__law_pattern cd__law_pattern ct__law_pattern), sl__law_pattern⟩) (c__law_pattern_ : PySem.W.codeIn K cd__law_pattern "_law_pattern" = true) (k__law_pattern : PySem.W.keepIn K (.ref f__law_pattern) = true)
    {f__law_some : Addr} {od__law_some an__law_some : Option Addr} {sl__law_some : Array (Option Value)} {oc__law_some kV__law_some dc__law_some pm__law_some cd__law_some ct__law_some : Value} (a__law_some : PySem.W.nsIn K mainGlobals "_law_some" = some (some (.ref f__law_some))) (l__law_some : K.lookup f__law_some = some ⟨oc__law_some, od__law_some, .func (PySem.W.fnOf "_law_some" "_law_some" (defArgs s__law_some) (defBody s__law_some) (defScope s__law_some) .none kV__law_some dc__law_some pm__law_some an__law_some cd__law_some ct__law_some), sl__law_some⟩) (c__law_some_ : PySem.W.codeIn K cd__law_some "_law_some" = true) (k__law_some : PySem.W.keepIn K (.ref f__law_some) = true)
    {f__law_deep : Addr} {od__law_deep an__law_deep : Option Addr} {sl__law_deep : Array (Option Value)} {oc__law_deep kV__law_deep dc__law_deep pm__law_deep cd__law_deep ct__law_deep : Value} (a__law_deep : PySem.W.nsIn K mainGlobals "_law_deep" = some (some (.ref f__law_deep))) (l__law_deep : K.lookup f__law_deep = some ⟨oc__law_deep, od__law_deep, .func (PySem.W.fnOf "_law_deep" "_law_deep" (defArgs s__law_deep) (defBody s__law_deep) (defScope s__law_deep) .none kV__law_deep dc__law_deep pm__law_deep an__law_deep cd__law_deep ct__law_deep), sl__law_deep⟩) (c__law_deep_ : PySem.W.codeIn K cd__law_deep "_law_deep" = true) (k__law_deep : PySem.W.keepIn K (.ref f__law_deep) = true)
    {f__law_bent : Addr} {od__law_bent an__law_bent : Option Addr} {sl__law_bent : Array (Option Value)} {oc__law_bent kV__law_bent dc__law_bent pm__law_bent cd__law_bent ct__law_bent : Value} (a__law_bent : PySem.W.nsIn K mainGlobals "_law_bent" = some (some (.ref f__law_bent))) (l__law_bent : K.lookup f__law_bent = some ⟨oc__law_bent, od__law_bent, .func (PySem.W.fnOf "_law_bent" "_law_bent" (defArgs s__law_bent) (defBody s__law_bent) (defScope s__law_bent) .none kV__law_bent dc__law_bent pm__law_bent an__law_bent cd__law_bent ct__law_bent), sl__law_bent⟩) (c__law_bent_ : PySem.W.codeIn K cd__law_bent "_law_bent" = true) (k__law_bent : PySem.W.keepIn K (.ref f__law_bent) = true)
    {f__law_is_int : Addr} {od__law_is_int an__law_is_int : Option Addr} {sl__law_is_int : Array (Option Value)} {oc__law_is_int kV__law_is_int dc__law_is_int pm__law_is_int cd__law_is_int ct__law_is_int : Value} (a__law_is_int : PySem.W.nsIn K mainGlobals "_law_is_int" = some (some (.ref f__law_is_int))) (l__law_is_int : K.lookup f__law_is_int = some ⟨oc__law_is_int, od__law_is_int, .func (PySem.W.fnOf "_law_is_int" "_law_is_int" (defArgs s__law_is_int) (defBody s__law_is_int) (defScope s__law_is_int) .none kV__law_is_int dc__law_is_int pm__law_is_int an__law_is_int cd__law_is_int ct__law_is_int), sl__law_is_int⟩) (c__law_is_int_ : PySem.W.codeIn K cd__law_is_int "_law_is_int" = true) (k__law_is_int : PySem.W.keepIn K (.ref f__law_is_int) = true)
    {f__law_is_lot : Addr} {od__law_is_lot an__law_is_lot : Option Addr} {sl__law_is_lot : Array (Option Value)} {oc__law_is_lot kV__law_is_lot dc__law_is_lot pm__law_is_lot cd__law_is_lot ct__law_is_lot : Value} (a__law_is_lot : PySem.W.nsIn K mainGlobals "_law_is_lot" = some (some (.ref f__law_is_lot))) (l__law_is_lot : K.lookup f__law_is_lot = some ⟨oc__law_is_lot, od__law_is_lot, .func (PySem.W.fnOf "_law_is_lot" "_law_is_lot" (defArgs s__law_is_lot) (defBody s__law_is_lot) (defScope s__law_is_lot) .none kV__law_is_lot dc__law_is_lot pm__law_is_lot an__law_is_lot cd__law_is_lot ct__law_is_lot), sl__law_is_lot⟩) (c__law_is_lot_ : PySem.W.codeIn K cd__law_is_lot "_law_is_lot" = true) (k__law_is_lot : PySem.W.keepIn K (.ref f__law_is_lot) = true)
    {f_are_rising : Addr} {od_are_rising an_are_rising : Option Addr} {sl_are_rising : Array (Option Value)} {oc_are_rising kV_are_rising dc_are_rising pm_are_rising cd_are_rising ct_are_rising : Value} (a_are_rising : PySem.W.nsIn K mainGlobals "are_rising" = some (some (.ref f_are_rising))) (l_are_rising : K.lookup f_are_rising = some ⟨oc_are_rising, od_are_rising, .func (PySem.W.fnOf "are_rising" "are_rising" (defArgs s_are_rising) (defBody s_are_rising) (defScope s_are_rising) .none kV_are_rising dc_are_rising pm_are_rising an_are_rising cd_are_rising ct_are_rising), sl_are_rising⟩) (c_are_rising_ : PySem.W.codeIn K cd_are_rising "are_rising" = true) (k_are_rising : PySem.W.keepIn K (.ref f_are_rising) = true)
    {f_is_integer : Addr} {od_is_integer an_is_integer : Option Addr} {sl_is_integer : Array (Option Value)} {oc_is_integer kV_is_integer dc_is_integer pm_is_integer cd_is_integer ct_is_integer : Value} (a_is_integer : PySem.W.nsIn K mainGlobals "is_integer" = some (some (.ref f_is_integer))) (l_is_integer : K.lookup f_is_integer = some ⟨oc_is_integer, od_is_integer, .func (PySem.W.fnOf "is_integer" "is_integer" (defArgs s_is_integer) (defBody s_is_integer) (defScope s_is_integer) .none kV_is_integer dc_is_integer pm_is_integer an_is_integer cd_is_integer ct_is_integer), sl_is_integer⟩) (c_is_integer_ : PySem.W.codeIn K cd_is_integer "is_integer" = true) (k_is_integer : PySem.W.keepIn K (.ref f_is_integer) = true)
    {f_is_within : Addr} {od_is_within an_is_within : Option Addr} {sl_is_within : Array (Option Value)} {oc_is_within kV_is_within dc_is_within pm_is_within cd_is_within ct_is_within : Value} (a_is_within : PySem.W.nsIn K mainGlobals "is_within" = some (some (.ref f_is_within))) (l_is_within : K.lookup f_is_within = some ⟨oc_is_within, od_is_within, .func (PySem.W.fnOf "is_within" "is_within" (defArgs s_is_within) (defBody s_is_within) (defScope s_is_within) .none kV_is_within dc_is_within pm_is_within an_is_within cd_is_within ct_is_within), sl_is_within⟩) (c_is_within_ : PySem.W.codeIn K cd_is_within "is_within" = true) (k_is_within : PySem.W.keepIn K (.ref f_is_within) = true)
    {f_is_lot_below : Addr} {od_is_lot_below an_is_lot_below : Option Addr} {sl_is_lot_below : Array (Option Value)} {oc_is_lot_below kV_is_lot_below dc_is_lot_below pm_is_lot_below cd_is_lot_below ct_is_lot_below : Value} (a_is_lot_below : PySem.W.nsIn K mainGlobals "is_lot_below" = some (some (.ref f_is_lot_below))) (l_is_lot_below : K.lookup f_is_lot_below = some ⟨oc_is_lot_below, od_is_lot_below, .func (PySem.W.fnOf "is_lot_below" "is_lot_below" (defArgs s_is_lot_below) (defBody s_is_lot_below) (defScope s_is_lot_below) .none kV_is_lot_below dc_is_lot_below pm_is_lot_below an_is_lot_below cd_is_lot_below ct_is_lot_below), sl_is_lot_below⟩) (c_is_lot_below_ : PySem.W.codeIn K cd_is_lot_below "is_lot_below" = true) (k_is_lot_below : PySem.W.keepIn K (.ref f_is_lot_below) = true)
    {f_is_sized : Addr} {od_is_sized an_is_sized : Option Addr} {sl_is_sized : Array (Option Value)} {oc_is_sized kV_is_sized dc_is_sized pm_is_sized cd_is_sized ct_is_sized : Value} (a_is_sized : PySem.W.nsIn K mainGlobals "is_sized" = some (some (.ref f_is_sized))) (l_is_sized : K.lookup f_is_sized = some ⟨oc_is_sized, od_is_sized, .func (PySem.W.fnOf "is_sized" "is_sized" (defArgs s_is_sized) (defBody s_is_sized) (defScope s_is_sized) .none kV_is_sized dc_is_sized pm_is_sized an_is_sized cd_is_sized ct_is_sized), sl_is_sized⟩) (c_is_sized_ : PySem.W.codeIn K cd_is_sized "is_sized" = true) (k_is_sized : PySem.W.keepIn K (.ref f_is_sized) = true)
    {f_is_miss : Addr} {od_is_miss an_is_miss : Option Addr} {sl_is_miss : Array (Option Value)} {oc_is_miss kV_is_miss dc_is_miss pm_is_miss cd_is_miss ct_is_miss : Value} (a_is_miss : PySem.W.nsIn K mainGlobals "is_miss" = some (some (.ref f_is_miss))) (l_is_miss : K.lookup f_is_miss = some ⟨oc_is_miss, od_is_miss, .func (PySem.W.fnOf "is_miss" "is_miss" (defArgs s_is_miss) (defBody s_is_miss) (defScope s_is_miss) .none kV_is_miss dc_is_miss pm_is_miss an_is_miss cd_is_miss ct_is_miss), sl_is_miss⟩) (c_is_miss_ : PySem.W.codeIn K cd_is_miss "is_miss" = true) (k_is_miss : PySem.W.keepIn K (.ref f_is_miss) = true)
    {f_is_round : Addr} {od_is_round an_is_round : Option Addr} {sl_is_round : Array (Option Value)} {oc_is_round kV_is_round dc_is_round pm_is_round cd_is_round ct_is_round : Value} (a_is_round : PySem.W.nsIn K mainGlobals "is_round" = some (some (.ref f_is_round))) (l_is_round : K.lookup f_is_round = some ⟨oc_is_round, od_is_round, .func (PySem.W.fnOf "is_round" "is_round" (defArgs s_is_round) (defBody s_is_round) (defScope s_is_round) .none kV_is_round dc_is_round pm_is_round an_is_round cd_is_round ct_is_round), sl_is_round⟩) (c_is_round_ : PySem.W.codeIn K cd_is_round "is_round" = true) (k_is_round : PySem.W.keepIn K (.ref f_is_round) = true)
    {f_is_pattern_of : Addr} {od_is_pattern_of an_is_pattern_of : Option Addr} {sl_is_pattern_of : Array (Option Value)} {oc_is_pattern_of kV_is_pattern_of dc_is_pattern_of pm_is_pattern_of cd_is_pattern_of ct_is_pattern_of : Value} (a_is_pattern_of : PySem.W.nsIn K mainGlobals "is_pattern_of" = some (some (.ref f_is_pattern_of))) (l_is_pattern_of : K.lookup f_is_pattern_of = some ⟨oc_is_pattern_of, od_is_pattern_of, .func (PySem.W.fnOf "is_pattern_of" "is_pattern_of" (defArgs s_is_pattern_of) (defBody s_is_pattern_of) (defScope s_is_pattern_of) .none kV_is_pattern_of dc_is_pattern_of pm_is_pattern_of an_is_pattern_of cd_is_pattern_of ct_is_pattern_of), sl_is_pattern_of⟩) (c_is_pattern_of_ : PySem.W.codeIn K cd_is_pattern_of "is_pattern_of" = true) (k_is_pattern_of : PySem.W.keepIn K (.ref f_is_pattern_of) = true)
    {f_is_sparing : Addr} {od_is_sparing an_is_sparing : Option Addr} {sl_is_sparing : Array (Option Value)} {oc_is_sparing kV_is_sparing dc_is_sparing pm_is_sparing cd_is_sparing ct_is_sparing : Value} (a_is_sparing : PySem.W.nsIn K mainGlobals "is_sparing" = some (some (.ref f_is_sparing))) (l_is_sparing : K.lookup f_is_sparing = some ⟨oc_is_sparing, od_is_sparing, .func (PySem.W.fnOf "is_sparing" "is_sparing" (defArgs s_is_sparing) (defBody s_is_sparing) (defScope s_is_sparing) .none kV_is_sparing dc_is_sparing pm_is_sparing an_is_sparing cd_is_sparing ct_is_sparing), sl_is_sparing⟩) (c_is_sparing_ : PySem.W.codeIn K cd_is_sparing "is_sparing" = true) (k_is_sparing : PySem.W.keepIn K (.ref f_is_sparing) = true)
    {f__law_told : Addr} {od__law_told an__law_told : Option Addr} {sl__law_told : Array (Option Value)} {oc__law_told kV__law_told dc__law_told pm__law_told cd__law_told ct__law_told : Value} (a__law_told : PySem.W.nsIn K mainGlobals "_law_told" = some (some (.ref f__law_told))) (l__law_told : K.lookup f__law_told = some ⟨oc__law_told, od__law_told, .func (PySem.W.fnOf "_law_told" "_law_told" (defArgs s__law_told) (defBody s__law_told) (defScope s__law_told) .none kV__law_told dc__law_told pm__law_told an__law_told cd__law_told ct__law_told), sl__law_told⟩) (c__law_told_ : PySem.W.codeIn K cd__law_told "_law_told" = true) (k__law_told : PySem.W.keepIn K (.ref f__law_told) = true)
    {f__law_is_row : Addr} {od__law_is_row an__law_is_row : Option Addr} {sl__law_is_row : Array (Option Value)} {oc__law_is_row kV__law_is_row dc__law_is_row pm__law_is_row cd__law_is_row ct__law_is_row : Value} (a__law_is_row : PySem.W.nsIn K mainGlobals "_law_is_row" = some (some (.ref f__law_is_row))) (l__law_is_row : K.lookup f__law_is_row = some ⟨oc__law_is_row, od__law_is_row, .func (PySem.W.fnOf "_law_is_row" "_law_is_row" (defArgs s__law_is_row) (defBody s__law_is_row) (defScope s__law_is_row) .none kV__law_is_row dc__law_is_row pm__law_is_row an__law_is_row cd__law_is_row ct__law_is_row), sl__law_is_row⟩) (c__law_is_row_ : PySem.W.codeIn K cd__law_is_row "_law_is_row" = true) (k__law_is_row : PySem.W.keepIn K (.ref f__law_is_row) = true)
    {f__law_is_sparing : Addr} {od__law_is_sparing an__law_is_sparing : Option Addr} {sl__law_is_sparing : Array (Option Value)} {oc__law_is_sparing kV__law_is_sparing dc__law_is_sparing pm__law_is_sparing cd__law_is_sparing ct__law_is_sparing : Value} (a__law_is_sparing : PySem.W.nsIn K mainGlobals "_law_is_sparing" = some (some (.ref f__law_is_sparing))) (l__law_is_sparing : K.lookup f__law_is_sparing = some ⟨oc__law_is_sparing, od__law_is_sparing, .func (PySem.W.fnOf "_law_is_sparing" "_law_is_sparing" (defArgs s__law_is_sparing) (defBody s__law_is_sparing) (defScope s__law_is_sparing) .none kV__law_is_sparing dc__law_is_sparing pm__law_is_sparing an__law_is_sparing cd__law_is_sparing ct__law_is_sparing), sl__law_is_sparing⟩) (c__law_is_sparing_ : PySem.W.codeIn K cd__law_is_sparing "_law_is_sparing" = true) (k__law_is_sparing : PySem.W.keepIn K (.ref f__law_is_sparing) = true)
    {f_law : Addr} {od_law an_law : Option Addr} {sl_law : Array (Option Value)} {oc_law kV_law dc_law pm_law cd_law ct_law : Value} (a_law : PySem.W.nsIn K mainGlobals "law" = some (some (.ref f_law))) (l_law : K.lookup f_law = some ⟨oc_law, od_law, .func (PySem.W.fnOf "law" "law" (defArgs s_law) (defBody s_law) (defScope s_law) .none kV_law dc_law pm_law an_law cd_law ct_law), sl_law⟩) (c_law_ : PySem.W.codeIn K cd_law "law" = true) (k_law : PySem.W.keepIn K (.ref f_law) = true)
    {t_LEAST_MANY : Tok} (a_LEAST_MANY : PySem.W.nsIn K mainGlobals "LEAST_MANY" = some (some (Value.int 3 t_LEAST_MANY)))
    {t_MOST_MANY : Tok} (a_MOST_MANY : PySem.W.nsIn K mainGlobals "MOST_MANY" = some (some (Value.int 5 t_MOST_MANY)))
    {t_MOST_ROUNDS : Tok} (a_MOST_ROUNDS : PySem.W.nsIn K mainGlobals "MOST_ROUNDS" = some (some (Value.int 30 t_MOST_ROUNDS)))
    (e_NoLot : ErrI l.prog K "NoLot" none)
    (e_NoMachine : ErrI l.prog K "NoMachine" none)
    (e_NoPattern : ErrI l.prog K "NoPattern" none)
    {q_base : Addr} (a_base : PySem.W.nsIn K mainGlobals "SilentError" = some (some (.ref q_base)))
    (z_ValueError : PySem.W.nsIn K mainGlobals "ValueError" = some none)
    (z_abs : PySem.W.nsIn K mainGlobals "abs" = some none)
    (z_all : PySem.W.nsIn K mainGlobals "all" = some none)
    (z_bool : PySem.W.nsIn K mainGlobals "bool" = some none)
    (z_enumerate : PySem.W.nsIn K mainGlobals "enumerate" = some none)
    (z_int : PySem.W.nsIn K mainGlobals "int" = some none)
    (z_isinstance : PySem.W.nsIn K mainGlobals "isinstance" = some none)
    (z_len : PySem.W.nsIn K mainGlobals "len" = some none)
    (z_list : PySem.W.nsIn K mainGlobals "list" = some none)
    (z_range : PySem.W.nsIn K mainGlobals "range" = some none)
    (z_repr : PySem.W.nsIn K mainGlobals "repr" = some none)
    (z_tuple : PySem.W.nsIn K mainGlobals "tuple" = some none)
    (z_zip : PySem.W.nsIn K mainGlobals "zip" = some none)
    : ∃ fd : FuncData, (∀ (s : Shared) (v : Value), BindsTo s fd ⟨[v], []⟩ [("_law_script", v)]) ∧ ∀ base : Heap, K.In base → base.Ns mainGlobals mg → FnG l.prog w K mg base (L2.CX l.prog w) 8 fa fd ["_law_script"] (spD K mg 1 r_law) := by
  have e := hfa.symm.trans (PySem.W.mg_of X G a_law)
  cases e
  have F__law_pot := fun_mk (st := s__law_pot) l__law_pot c__law_pot_ k__law_pot
  have B__law_pot := F__law_pot.binds (ps := ["_law_script"]) fun _ _ _ _ _ _ us hl => match us, hl with | [_], _ => rfl
  have F__law_draw := fun_mk (st := s__law_draw) l__law_draw c__law_draw_ k__law_draw
  have B__law_draw := F__law_draw.binds (ps := ["_law_pot_here", "_law_many"]) fun _ _ _ _ _ _ us hl => match us, hl with | [_, _], _ => rfl
  have F__law_any := fun_mk (st := s__law_any) l__law_any c__law_any_ k__law_any
  have B__law_any := F__law_any.binds (ps := ["_law_pot_here", "_law_things"]) fun _ _ _ _ _ _ us hl => match us, hl with | [_, _], _ => rfl
  have F__law_entry := fun_mk (st := s__law_entry) l__law_entry c__law_entry_ k__law_entry
  have B__law_entry := F__law_entry.binds (ps := ["_law_pot_here", "_law_many", "_law_me", "_law_some_here"]) fun _ _ _ _ _ _ us hl => match us, hl with | [_, _, _, _], _ => rfl
  have F__law_pattern := fun_mk (st := s__law_pattern) l__law_pattern c__law_pattern_ k__law_pattern
  have B__law_pattern := F__law_pattern.binds (ps := ["_law_pot_here", "_law_many", "_law_rounds", "_law_some_here"]) fun _ _ _ _ _ _ us hl => match us, hl with | [_, _, _, _], _ => rfl
  have F__law_some := fun_mk (st := s__law_some) l__law_some c__law_some_ k__law_some
  have B__law_some := F__law_some.binds (ps := ["_law_pot_here"]) fun _ _ _ _ _ _ us hl => match us, hl with | [_], _ => rfl
  have F__law_deep := fun_mk (st := s__law_deep) l__law_deep c__law_deep_ k__law_deep
  have B__law_deep := F__law_deep.binds (ps := ["_law_pot_here"]) fun _ _ _ _ _ _ us hl => match us, hl with | [_], _ => rfl
  have F__law_bent := fun_mk (st := s__law_bent) l__law_bent c__law_bent_ k__law_bent
  have B__law_bent := F__law_bent.binds (ps := ["_law_pot_here", "_law_many", "_law_pattern_here"]) fun _ _ _ _ _ _ us hl => match us, hl with | [_, _, _], _ => rfl
  have F__law_is_int := fun_mk (st := s__law_is_int) l__law_is_int c__law_is_int_ k__law_is_int
  have B__law_is_int := F__law_is_int.binds (ps := ["_law_thing", "_law_least", "_law_most"]) fun _ _ _ _ _ _ us hl => match us, hl with | [_, _, _], _ => rfl
  have F__law_is_lot := fun_mk (st := s__law_is_lot) l__law_is_lot c__law_is_lot_ k__law_is_lot
  have B__law_is_lot := F__law_is_lot.binds (ps := ["_law_thing"]) fun _ _ _ _ _ _ us hl => match us, hl with | [_], _ => rfl
  have F_are_rising := fun_mk (st := s_are_rising) l_are_rising c_are_rising_ k_are_rising
  have B_are_rising := F_are_rising.binds (ps := ["things"]) fun _ _ _ _ _ _ us hl => match us, hl with | [_], _ => rfl
  have F_is_integer := fun_mk (st := s_is_integer) l_is_integer c_is_integer_ k_is_integer
  have B_is_integer := F_is_integer.binds (ps := ["thing"]) fun _ _ _ _ _ _ us hl => match us, hl with | [_], _ => rfl
  have F_is_within := fun_mk (st := s_is_within) l_is_within c_is_within_ k_is_within
  have B_is_within := F_is_within.binds (ps := ["thing", "least", "most"]) fun _ _ _ _ _ _ us hl => match us, hl with | [_, _, _], _ => rfl
  have F_is_lot_below := fun_mk (st := s_is_lot_below) l_is_lot_below c_is_lot_below_ k_is_lot_below
  have B_is_lot_below := F_is_lot_below.binds (ps := ["thing", "many"]) fun _ _ _ _ _ _ us hl => match us, hl with | [_, _], _ => rfl
  have F_is_sized := fun_mk (st := s_is_sized) l_is_sized c_is_sized_ k_is_sized
  have B_is_sized := F_is_sized.binds (ps := ["thing", "least", "most"]) fun _ _ _ _ _ _ us hl => match us, hl with | [_, _, _], _ => rfl
  have F_is_miss := fun_mk (st := s_is_miss) l_is_miss c_is_miss_ k_is_miss
  have B_is_miss := F_is_miss.binds (ps := ["many", "me", "thing"]) fun _ _ _ _ _ _ us hl => match us, hl with | [_, _, _], _ => rfl
  have F_is_round := fun_mk (st := s_is_round) l_is_round c_is_round_ k_is_round
  have B_is_round := F_is_round.binds (ps := ["many", "thing"]) fun _ _ _ _ _ _ us hl => match us, hl with | [_, _], _ => rfl
  have F_is_pattern_of := fun_mk (st := s_is_pattern_of) l_is_pattern_of c_is_pattern_of_ k_is_pattern_of
  have B_is_pattern_of := F_is_pattern_of.binds (ps := ["many", "rounds", "thing"]) fun _ _ _ _ _ _ us hl => match us, hl with | [_, _, _], _ => rfl
  have F_is_sparing := fun_mk (st := s_is_sparing) l_is_sparing c_is_sparing_ k_is_sparing
  have B_is_sparing := F_is_sparing.binds (ps := ["some", "thing"]) fun _ _ _ _ _ _ us hl => match us, hl with | [_, _], _ => rfl
  have F__law_told := fun_mk (st := s__law_told) l__law_told c__law_told_ k__law_told
  have B__law_told := F__law_told.binds (ps := ["_law_some_here", "_law_thing"]) fun _ _ _ _ _ _ us hl => match us, hl with | [_, _], _ => rfl
  have F__law_is_row := fun_mk (st := s__law_is_row) l__law_is_row c__law_is_row_ k__law_is_row
  have B__law_is_row := F__law_is_row.binds (ps := ["_law_thing", "_law_many", "_law_some_here"]) fun _ _ _ _ _ _ us hl => match us, hl with | [_, _, _], _ => rfl
  have F__law_is_sparing := fun_mk (st := s__law_is_sparing) l__law_is_sparing c__law_is_sparing_ k__law_is_sparing
  have B__law_is_sparing := F__law_is_sparing.binds (ps := ["_law_some_here", "_law_thing"]) fun _ _ _ _ _ _ us hl => match us, hl with | [_, _], _ => rfl
  have F_law := fun_mk (st := s_law) l_law c_law_ k_law
  have B_law := F_law.binds (ps := ["_law_script"]) fun _ _ _ _ _ _ us hl => match us, hl with | [_], _ => rfl
  refine ⟨PySem.W.fnOf "law" "law" (defArgs s_law) (defBody s_law) (defScope s_law) .none kV_law dc_law pm_law an_law cd_law ct_law, fun s v => .of_eq rfl, fun base _ _ => ?_⟩
  have O__law_pot : FnG l.prog w K mg base (L2.CX l.prog w) 1 _ _ _ (spD K mg 1 r__law_pot) := ok__law_pot (k := 0) F__law_pot (.cons (PySem.W.mg_none_of X G z_abs) (.cons (PySem.W.mg_none_of X G z_int) (.cons (PySem.W.mg_none_of X G z_len) (GAll.nil))))
  have O__law_draw : FnG l.prog w K mg base (L2.CX l.prog w) 1 _ _ _ (spD K mg 2 r__law_draw) := ok__law_draw (k := 0) F__law_draw (.cons (PySem.W.mg_none_of X G z_len) (.cons (PySem.W.mg_none_of X G z_int) (GAll.nil)))
  have O__law_any : FnG l.prog w K mg base (L2.CX l.prog w) 2 _ _ _ (spD K mg 2 r__law_any) := ok__law_any (k := 1) F__law_any (.cons ((fn_at O__law_draw (PySem.W.mg_of X G a__law_draw) k__law_draw B__law_draw).mono (by decide)) (.cons (PySem.W.mg_none_of X G z_len) (GAll.nil)))
  have O__law_entry : FnG l.prog w K mg base (L2.CX l.prog w) 3 _ _ _ (spD K mg 4 r__law_entry) := ok__law_entry (k := 2) F__law_entry (.cons (PySem.W.mg_none_of X G z_len) (.cons ((fn_at O__law_draw (PySem.W.mg_of X G a__law_draw) k__law_draw B__law_draw).mono (by decide)) (.cons ((fn_at O__law_any (PySem.W.mg_of X G a__law_any) k__law_any B__law_any).mono (by decide)) (GAll.nil))))
  have O__law_pattern : FnG l.prog w K mg base (L2.CX l.prog w) 4 _ _ _ (spD K mg 4 r__law_pattern) := ok__law_pattern (k := 3) F__law_pattern (.cons (PySem.W.mg_none_of X G z_range) (.cons (PySem.W.mg_none_of X G z_tuple) (.cons ((fn_at O__law_entry (PySem.W.mg_of X G a__law_entry) k__law_entry B__law_entry).mono (by decide)) (GAll.nil))))
  have O__law_some : FnG l.prog w K mg base (L2.CX l.prog w) 2 _ _ _ (spD K mg 1 r__law_some) := ok__law_some (k := 1) F__law_some (.cons (PySem.W.mg_none_of X G z_tuple) (.cons (PySem.W.mg_none_of X G z_range) (.cons ((fn_at O__law_draw (PySem.W.mg_of X G a__law_draw) k__law_draw B__law_draw).mono (by decide)) (GAll.nil))))
  have O__law_deep : FnG l.prog w K mg base (L2.CX l.prog w) 3 _ _ _ (spD K mg 1 r__law_deep) := ok__law_deep (k := 2) F__law_deep (.cons ((fn_at O__law_any (PySem.W.mg_of X G a__law_any) k__law_any B__law_any).mono (by decide)) (.cons (PySem.W.mg_none_of X G z_range) (.cons ((fn_at O__law_draw (PySem.W.mg_of X G a__law_draw) k__law_draw B__law_draw).mono (by decide)) (GAll.nil))))
  have O__law_bent : FnG l.prog w K mg base (L2.CX l.prog w) 4 _ _ _ (spD K mg 3 r__law_bent) := ok__law_bent (k := 3) F__law_bent (.cons (PySem.W.mg_none_of X G z_len) (.cons (PySem.W.mg_none_of X G z_list) (.cons ((fn_at O__law_any (PySem.W.mg_of X G a__law_any) k__law_any B__law_any).mono (by decide)) (.cons ((fn_at O__law_draw (PySem.W.mg_of X G a__law_draw) k__law_draw B__law_draw).mono (by decide)) (.cons (PySem.W.mg_none_of X G z_int) (.cons ((fn_at O__law_deep (PySem.W.mg_of X G a__law_deep) k__law_deep B__law_deep).mono (by decide)) (.cons (PySem.W.mg_none_of X G z_tuple) (GAll.nil))))))))
  have O__law_is_int : FnG l.prog w K mg base (L2.CX l.prog w) 1 _ _ _ (spD K mg 3 r__law_is_int) := ok__law_is_int (k := 0) F__law_is_int (.cons (PySem.W.mg_none_of X G z_isinstance) (.cons (PySem.W.mg_none_of X G z_int) (.cons (PySem.W.mg_none_of X G z_bool) (GAll.nil))))
  have O__law_is_lot : FnG l.prog w K mg base (L2.CX l.prog w) 2 _ _ _ (spD K mg 1 r__law_is_lot) := ok__law_is_lot (k := 1) F__law_is_lot (.cons (PySem.W.mg_none_of X G z_isinstance) (.cons (PySem.W.mg_none_of X G z_tuple) (.cons (PySem.W.mg_none_of X G z_all) (.cons ((fn_at O__law_is_int (PySem.W.mg_of X G a__law_is_int) k__law_is_int B__law_is_int).mono (by decide)) (.cons (PySem.W.mg_none_of X G z_zip) (GAll.nil))))))
  have O_are_rising : FnG l.prog w K mg base (L2.CX l.prog w) 1 _ _ _ (spD K mg 1 r_are_rising) := ok_are_rising (k := 0) F_are_rising (.cons (PySem.W.mg_none_of X G z_all) (.cons (PySem.W.mg_none_of X G z_zip) (GAll.nil)))
  have O_is_integer : FnG l.prog w K mg base (L2.CX l.prog w) 1 _ _ _ (spD K mg 1 r_is_integer) := ok_is_integer (k := 0) F_is_integer (.cons (PySem.W.mg_none_of X G z_isinstance) (.cons (PySem.W.mg_none_of X G z_int) (.cons (PySem.W.mg_none_of X G z_bool) (GAll.nil))))
  have O_is_within : FnG l.prog w K mg base (L2.CX l.prog w) 2 _ _ _ (spD K mg 3 r_is_within) := ok_is_within (k := 1) F_is_within (.cons ((fn_at O_is_integer (PySem.W.mg_of X G a_is_integer) k_is_integer B_is_integer).mono (by decide)) (GAll.nil))
  have O_is_lot_below : FnG l.prog w K mg base (L2.CX l.prog w) 3 _ _ _ (spD K mg 2 r_is_lot_below) := ok_is_lot_below (k := 2) F_is_lot_below (.cons (PySem.W.mg_none_of X G z_isinstance) (.cons (PySem.W.mg_none_of X G z_tuple) (.cons (PySem.W.mg_none_of X G z_all) (.cons ((fn_at O_is_within (PySem.W.mg_of X G a_is_within) k_is_within B_is_within).mono (by decide)) (.cons ((fn_at O_are_rising (PySem.W.mg_of X G a_are_rising) k_are_rising B_are_rising).mono (by decide)) (GAll.nil))))))
  have O_is_sized : FnG l.prog w K mg base (L2.CX l.prog w) 1 _ _ _ (spD K mg 3 r_is_sized) := ok_is_sized (k := 0) F_is_sized (.cons (PySem.W.mg_none_of X G z_isinstance) (.cons (PySem.W.mg_none_of X G z_tuple) (.cons (PySem.W.mg_none_of X G z_len) (GAll.nil))))
  have O_is_miss : FnG l.prog w K mg base (L2.CX l.prog w) 3 _ _ _ (spD K mg 3 r_is_miss) := ok_is_miss (k := 2) F_is_miss (.cons ((fn_at O_is_within (PySem.W.mg_of X G a_is_within) k_is_within B_is_within).mono (by decide)) (GAll.nil))
  have O_is_round : FnG l.prog w K mg base (L2.CX l.prog w) 4 _ _ _ (spD K mg 2 r_is_round) := ok_is_round (k := 3) F_is_round (.cons ((fn_at O_is_sized (PySem.W.mg_of X G a_is_sized) k_is_sized B_is_sized).mono (by decide)) (.cons (PySem.W.mg_none_of X G z_all) (.cons (PySem.W.mg_none_of X G z_enumerate) (.cons ((fn_at O_is_miss (PySem.W.mg_of X G a_is_miss) k_is_miss B_is_miss).mono (by decide)) (GAll.nil)))))
  have O_is_pattern_of : FnG l.prog w K mg base (L2.CX l.prog w) 5 _ _ _ (spD K mg 3 r_is_pattern_of) := ok_is_pattern_of (k := 4) F_is_pattern_of (.cons (val_int (PySem.W.mg_of X G a_MOST_ROUNDS)) (.cons ((fn_at O_is_sized (PySem.W.mg_of X G a_is_sized) k_is_sized B_is_sized).mono (by decide)) (.cons (PySem.W.mg_none_of X G z_all) (.cons ((fn_at O_is_round (PySem.W.mg_of X G a_is_round) k_is_round B_is_round).mono (by decide)) (GAll.nil)))))
  have O_is_sparing : FnG l.prog w K mg base (L2.CX l.prog w) 6 _ _ _ (spD K mg 2 r_is_sparing) := ok_is_sparing (k := 5) F_is_sparing (.cons ((fn_at O_is_lot_below (PySem.W.mg_of X G a_is_lot_below) k_is_lot_below B_is_lot_below).mono (by decide)) (.cons (val_int (PySem.W.mg_of X G a_MOST_MANY)) (.cons (e_NoLot.at_ X G) (.cons (PySem.W.mg_none_of X G z_isinstance) (.cons (PySem.W.mg_none_of X G z_tuple) (.cons ((fn_at O_is_sized (PySem.W.mg_of X G a_is_sized) k_is_sized B_is_sized).mono (by decide)) (.cons (val_int (PySem.W.mg_of X G a_LEAST_MANY)) (.cons ((fn_at O_is_pattern_of (PySem.W.mg_of X G a_is_pattern_of) k_is_pattern_of B_is_pattern_of).mono (by decide)) (.cons (PySem.W.mg_none_of X G z_len) (.cons (PySem.W.mg_none_of X G z_all) (GAll.nil)))))))))))
  have O__law_told : FnG l.prog w K mg base (L2.CX l.prog w) 7 _ _ _ (spD K mg 2 r__law_told) := ok__law_told (k := 6) F__law_told (.cons ((fn_at O_is_sparing (PySem.W.mg_of X G a_is_sparing) k_is_sparing B_is_sparing).mono (by decide)) (.cons (base_at X G a_base) (.cons (e_NoLot.at_ X G) (.cons (PySem.W.mg_none_of X G z_isinstance) (.cons (e_NoMachine.at_ X G) (.cons (e_NoPattern.at_ X G) (.cons (PySem.W.mg_none_of X G z_ValueError) (GAll.nil))))))))
  have O__law_is_row : FnG l.prog w K mg base (L2.CX l.prog w) 2 _ _ _ (spD K mg 3 r__law_is_row) := ok__law_is_row (k := 1) F__law_is_row (.cons (PySem.W.mg_none_of X G z_isinstance) (.cons (PySem.W.mg_none_of X G z_tuple) (.cons (PySem.W.mg_none_of X G z_len) (.cons (PySem.W.mg_none_of X G z_range) (.cons ((fn_at O__law_is_int (PySem.W.mg_of X G a__law_is_int) k__law_is_int B__law_is_int).mono (by decide)) (.cons (PySem.W.mg_none_of X G z_all) (GAll.nil)))))))
  have O__law_is_sparing : FnG l.prog w K mg base (L2.CX l.prog w) 3 _ _ _ (spD K mg 2 r__law_is_sparing) := ok__law_is_sparing (k := 2) F__law_is_sparing (.cons (PySem.W.mg_none_of X G z_isinstance) (.cons (PySem.W.mg_none_of X G z_tuple) (.cons (PySem.W.mg_none_of X G z_len) (.cons (PySem.W.mg_none_of X G z_all) (.cons ((fn_at O__law_is_row (PySem.W.mg_of X G a__law_is_row) k__law_is_row B__law_is_row).mono (by decide)) (GAll.nil))))))
  have O_law : FnG l.prog w K mg base (L2.CX l.prog w) 8 _ _ _ (spD K mg 1 r_law) := ok_law (k := 7) F_law (.cons ((fn_at O__law_pot (PySem.W.mg_of X G a__law_pot) k__law_pot B__law_pot).mono (by decide)) (.cons (PySem.W.mg_none_of X G z_range) (.cons ((fn_at O__law_draw (PySem.W.mg_of X G a__law_draw) k__law_draw B__law_draw).mono (by decide)) (.cons ((fn_at O__law_any (PySem.W.mg_of X G a__law_any) k__law_any B__law_any).mono (by decide)) (.cons ((fn_at O__law_some (PySem.W.mg_of X G a__law_some) k__law_some B__law_some).mono (by decide)) (.cons ((fn_at O__law_pattern (PySem.W.mg_of X G a__law_pattern) k__law_pattern B__law_pattern).mono (by decide)) (.cons (PySem.W.mg_none_of X G z_repr) (.cons ((fn_at O__law_told (PySem.W.mg_of X G a__law_told) k__law_told B__law_told).mono (by decide)) (.cons ((fn_at O__law_bent (PySem.W.mg_of X G a__law_bent) k__law_bent B__law_bent).mono (by decide)) (.cons ((fn_at O__law_is_sparing (PySem.W.mg_of X G a__law_is_sparing) k__law_is_sparing B__law_is_sparing).mono (by decide)) (.cons (PySem.W.mg_none_of X G z_list) (.cons ((fn_at O__law_deep (PySem.W.mg_of X G a__law_deep) k__law_deep B__law_deep).mono (by decide)) (.cons ((fn_at O__law_is_lot (PySem.W.mg_of X G a__law_is_lot) k__law_is_lot B__law_is_lot).mono (by decide)) (GAll.nil))))))))))))))
  exact O_law
end DL.K50
open PySem PySem.W PyProof.Rows in
set_option maxRecDepth 100000 in
set_option maxHeartbeats 0 in
theorem PySem.Challenge.cw_onesilent_k50_sparing_patterns_judged_holds : PySem.Challenge.rw_onesilent_k50_sparing_patterns_judged.Holds := by
  w_on; o_law; k_head; (case hw => w_witness2)
  k_fill
  refine DL.walk (l := PySem.Challenge.rw_onesilent_k50_sparing_patterns_judged) (k := 8) (x := "_law_script") rfl rfl ⟨rfl, by decide, by decide⟩ (fun w h Y => PySem.W.kIn_of Y) (DL.law_of DL.K50.law_true) ?F
  case F =>
    intro w mg fa h KX G hmg
    refine' DL.K50.all_mk KX G hmg ?a__law_pot ?l__law_pot ?c__law_pot_ ?k__law_pot ?a__law_draw ?l__law_draw ?c__law_draw_ ?k__law_draw ?a__law_any ?l__law_any ?c__law_any_ ?k__law_any ?a__law_entry ?l__law_entry ?c__law_entry_ ?k__law_entry ?a__law_pattern ?l__law_pattern ?c__law_pattern_ ?k__law_pattern ?a__law_some ?l__law_some ?c__law_some_ ?k__law_some ?a__law_deep ?l__law_deep ?c__law_deep_ ?k__law_deep ?a__law_bent ?l__law_bent ?c__law_bent_ ?k__law_bent ?a__law_is_int ?l__law_is_int ?c__law_is_int_ ?k__law_is_int ?a__law_is_lot ?l__law_is_lot ?c__law_is_lot_ ?k__law_is_lot ?a_are_rising ?l_are_rising ?c_are_rising_ ?k_are_rising ?a_is_integer ?l_is_integer ?c_is_integer_ ?k_is_integer ?a_is_within ?l_is_within ?c_is_within_ ?k_is_within ?a_is_lot_below ?l_is_lot_below ?c_is_lot_below_ ?k_is_lot_below ?a_is_sized ?l_is_sized ?c_is_sized_ ?k_is_sized ?a_is_miss ?l_is_miss ?c_is_miss_ ?k_is_miss ?a_is_round ?l_is_round ?c_is_round_ ?k_is_round ?a_is_pattern_of ?l_is_pattern_of ?c_is_pattern_of_ ?k_is_pattern_of ?a_is_sparing ?l_is_sparing ?c_is_sparing_ ?k_is_sparing ?a__law_told ?l__law_told ?c__law_told_ ?k__law_told ?a__law_is_row ?l__law_is_row ?c__law_is_row_ ?k__law_is_row ?a__law_is_sparing ?l__law_is_sparing ?c__law_is_sparing_ ?k__law_is_sparing ?a_law ?l_law ?c_law_ ?k_law ?a_LEAST_MANY ?a_MOST_MANY ?a_MOST_ROUNDS ?e_NoLot ?e_NoMachine ?e_NoPattern ?a_base ?z_ValueError ?z_abs ?z_all ?z_bool ?z_enumerate ?z_int ?z_isinstance ?z_len ?z_list ?z_range ?z_repr ?z_tuple ?z_zip
    (case a__law_pot => k_is)
    (case l__law_pot => k_is)
    (case c__law_pot_ => k_is)
    (case k__law_pot => k_is)
    (case a__law_draw => k_is)
    (case l__law_draw => k_is)
    (case c__law_draw_ => k_is)
    (case k__law_draw => k_is)
    (case a__law_any => k_is)
    (case l__law_any => k_is)
    (case c__law_any_ => k_is)
    (case k__law_any => k_is)
    (case a__law_entry => k_is)
    (case l__law_entry => k_is)
    (case c__law_entry_ => k_is)
    (case k__law_entry => k_is)
    (case a__law_pattern => k_is)
    (case l__law_pattern => k_is)
    (case c__law_pattern_ => k_is)
    (case k__law_pattern => k_is)
    (case a__law_some => k_is)
    (case l__law_some => k_is)
    (case c__law_some_ => k_is)
    (case k__law_some => k_is)
    (case a__law_deep => k_is)
    (case l__law_deep => k_is)
    (case c__law_deep_ => k_is)
    (case k__law_deep => k_is)
    (case a__law_bent => k_is)
    (case l__law_bent => k_is)
    (case c__law_bent_ => k_is)
    (case k__law_bent => k_is)
    (case a__law_is_int => k_is)
    (case l__law_is_int => k_is)
    (case c__law_is_int_ => k_is)
    (case k__law_is_int => k_is)
    (case a__law_is_lot => k_is)
    (case l__law_is_lot => k_is)
    (case c__law_is_lot_ => k_is)
    (case k__law_is_lot => k_is)
    (case a_are_rising => k_is)
    (case l_are_rising => k_is)
    (case c_are_rising_ => k_is)
    (case k_are_rising => k_is)
    (case a_is_integer => k_is)
    (case l_is_integer => k_is)
    (case c_is_integer_ => k_is)
    (case k_is_integer => k_is)
    (case a_is_within => k_is)
    (case l_is_within => k_is)
    (case c_is_within_ => k_is)
    (case k_is_within => k_is)
    (case a_is_lot_below => k_is)
    (case l_is_lot_below => k_is)
    (case c_is_lot_below_ => k_is)
    (case k_is_lot_below => k_is)
    (case a_is_sized => k_is)
    (case l_is_sized => k_is)
    (case c_is_sized_ => k_is)
    (case k_is_sized => k_is)
    (case a_is_miss => k_is)
    (case l_is_miss => k_is)
    (case c_is_miss_ => k_is)
    (case k_is_miss => k_is)
    (case a_is_round => k_is)
    (case l_is_round => k_is)
    (case c_is_round_ => k_is)
    (case k_is_round => k_is)
    (case a_is_pattern_of => k_is)
    (case l_is_pattern_of => k_is)
    (case c_is_pattern_of_ => k_is)
    (case k_is_pattern_of => k_is)
    (case a_is_sparing => k_is)
    (case l_is_sparing => k_is)
    (case c_is_sparing_ => k_is)
    (case k_is_sparing => k_is)
    (case a__law_told => k_is)
    (case l__law_told => k_is)
    (case c__law_told_ => k_is)
    (case k__law_told => k_is)
    (case a__law_is_row => k_is)
    (case l__law_is_row => k_is)
    (case c__law_is_row_ => k_is)
    (case k__law_is_row => k_is)
    (case a__law_is_sparing => k_is)
    (case l__law_is_sparing => k_is)
    (case c__law_is_sparing_ => k_is)
    (case k__law_is_sparing => k_is)
    (case a_law => k_is)
    (case l_law => k_is)
    (case c_law_ => k_is)
    (case k_law => k_is)
    (case a_LEAST_MANY => k_is)
    (case a_MOST_MANY => k_is)
    (case a_MOST_ROUNDS => k_is)
    (case e_NoLot => (refine' DL.errI_mk0 (st := (L2.inClass (DL.K50.top 11) 0)) (DL.errG_mk ?a ?s ?l ?e1 ?e2 ?f1 ?f2 ?f3 ?f4 ?g1 ?g2 ?g3 ?ne ?nx ?h1 ?h2 ?h3 ?i1 ?i2 ?i3 ?i4) ?iC ?tI ?lk ?hcd ?lcc ?lcd ?hvs ?hfile ?hsub ?hsup ?hVE ?hsn ?hop ?hb ?hline ?hbi ?hp ?har ?s1 ?s2 ?s3 ?s5 ?s6 ?s7 ?s8 ?s9; (case a => k_is); (case s => k_is); (case l => k_is); (case e1 => exact rfl); (case e2 => exact rfl); (case f1 => k_is); (case f2 => k_is); (case f3 => k_is); (case f4 => k_is); (case g1 => k_is); (case g2 => k_is); (case g3 => k_is); (case ne => decide +kernel); (case nx => decide +kernel); (case h1 => k_is); (case h2 => k_is); (case h3 => k_is); (case i1 => k_is); (case i2 => k_is); (case i3 => k_is); (case i4 => k_is); (case iC => k_is); (case tI => k_is); (case lk => k_is); (case hcd => k_is); (case lcc => k_is); (case lcd => k_is); (case hvs => exact rfl); (case hfile => exact rfl); (case hsub => k_is); (case hsup => exact rfl); (case hVE => k_is); (case hsn => k_is); (case hop => k_is); (case hb => exact rfl); (case hline => exact rfl); (case hbi => exact fun s u v => .of_eq rfl); (case hp => exact rfl); (case har => exact rfl); (case s1 => exact rfl); (case s2 => exact rfl); (case s3 => exact rfl); (case s5 => decide +kernel); (case s6 => exact rfl); (case s7 => exact rfl); (case s8 => exact rfl); (case s9 => exact rfl)))
    (case e_NoMachine => (refine' DL.errI_mk0 (st := (L2.inClass (DL.K50.top 10) 0)) (DL.errG_mk ?a ?s ?l ?e1 ?e2 ?f1 ?f2 ?f3 ?f4 ?g1 ?g2 ?g3 ?ne ?nx ?h1 ?h2 ?h3 ?i1 ?i2 ?i3 ?i4) ?iC ?tI ?lk ?hcd ?lcc ?lcd ?hvs ?hfile ?hsub ?hsup ?hVE ?hsn ?hop ?hb ?hline ?hbi ?hp ?har ?s1 ?s2 ?s3 ?s5 ?s6 ?s7 ?s8 ?s9; (case a => k_is); (case s => k_is); (case l => k_is); (case e1 => exact rfl); (case e2 => exact rfl); (case f1 => k_is); (case f2 => k_is); (case f3 => k_is); (case f4 => k_is); (case g1 => k_is); (case g2 => k_is); (case g3 => k_is); (case ne => decide +kernel); (case nx => decide +kernel); (case h1 => k_is); (case h2 => k_is); (case h3 => k_is); (case i1 => k_is); (case i2 => k_is); (case i3 => k_is); (case i4 => k_is); (case iC => k_is); (case tI => k_is); (case lk => k_is); (case hcd => k_is); (case lcc => k_is); (case lcd => k_is); (case hvs => exact rfl); (case hfile => exact rfl); (case hsub => k_is); (case hsup => exact rfl); (case hVE => k_is); (case hsn => k_is); (case hop => k_is); (case hb => exact rfl); (case hline => exact rfl); (case hbi => exact fun s u v => .of_eq rfl); (case hp => exact rfl); (case har => exact rfl); (case s1 => exact rfl); (case s2 => exact rfl); (case s3 => exact rfl); (case s5 => decide +kernel); (case s6 => exact rfl); (case s7 => exact rfl); (case s8 => exact rfl); (case s9 => exact rfl)))
    (case e_NoPattern => (refine' DL.errI_mk0 (st := (L2.inClass (DL.K50.top 12) 0)) (DL.errG_mk ?a ?s ?l ?e1 ?e2 ?f1 ?f2 ?f3 ?f4 ?g1 ?g2 ?g3 ?ne ?nx ?h1 ?h2 ?h3 ?i1 ?i2 ?i3 ?i4) ?iC ?tI ?lk ?hcd ?lcc ?lcd ?hvs ?hfile ?hsub ?hsup ?hVE ?hsn ?hop ?hb ?hline ?hbi ?hp ?har ?s1 ?s2 ?s3 ?s5 ?s6 ?s7 ?s8 ?s9; (case a => k_is); (case s => k_is); (case l => k_is); (case e1 => exact rfl); (case e2 => exact rfl); (case f1 => k_is); (case f2 => k_is); (case f3 => k_is); (case f4 => k_is); (case g1 => k_is); (case g2 => k_is); (case g3 => k_is); (case ne => decide +kernel); (case nx => decide +kernel); (case h1 => k_is); (case h2 => k_is); (case h3 => k_is); (case i1 => k_is); (case i2 => k_is); (case i3 => k_is); (case i4 => k_is); (case iC => k_is); (case tI => k_is); (case lk => k_is); (case hcd => k_is); (case lcc => k_is); (case lcd => k_is); (case hvs => exact rfl); (case hfile => exact rfl); (case hsub => k_is); (case hsup => exact rfl); (case hVE => k_is); (case hsn => k_is); (case hop => k_is); (case hb => exact rfl); (case hline => exact rfl); (case hbi => exact fun s u v => .of_eq rfl); (case hp => exact rfl); (case har => exact rfl); (case s1 => exact rfl); (case s2 => exact rfl); (case s3 => exact rfl); (case s5 => decide +kernel); (case s6 => exact rfl); (case s7 => exact rfl); (case s8 => exact rfl); (case s9 => exact rfl)))
    (case a_base => k_is)
    (case z_ValueError => k_is)
    (case z_abs => k_is)
    (case z_all => k_is)
    (case z_bool => k_is)
    (case z_enumerate => k_is)
    (case z_int => k_is)
    (case z_isinstance => k_is)
    (case z_len => k_is)
    (case z_list => k_is)
    (case z_range => k_is)
    (case z_repr => k_is)
    (case z_tuple => k_is)
    (case z_zip => k_is)
