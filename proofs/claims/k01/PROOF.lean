import PyProof.Rows.All
import Wide.All
import OpenK.AllK
import Wide.FinOn
import HandS.ForMost
import HandS.ForExc
import HandS.Walk
import HandS.IsInst
import HandS.HeadHook2
import HandS.TryMany
import HandS.Property
import HandS.Wide
import HandS.TupAny
import HandS.TupMul
import HandS.Deep
import HandS.Codes
import HandS.Dict
import HandS.ExcIs
import HandS.Nested
import HandS.ExcInit
import HandS.FStr
import KE.KExcSuper
import PyProof.FString2
import HandS.ExcField
import HandS.WordsExc
import KE.GoesEnum
import HandS.Iter
import HandS.DeepEq
import HandS.OwnEq
import HandS.HeadHook1
import HandS.HeadHook3
import HandS.HeadEnd
import HandS.Words
import HandS.More
import HandS.Head0
import HandS.Head1
import HandS.Head2
import PySem.Challenge.RW_stonesets_k01_boxes_refused
set_option Elab.async false
set_option linter.all false
set_option maxRecDepth 100000
/-! Mx: a small machine of one's own: data, a store, results; and how it is tied to the hand layer. -/
namespace Mx
open PySem (Str Addr sizeLine)

/-! ### data, store, results -/
inductive D where
  | non | bl (b : Bool) | int (i : Int) | str (s : Str) | tup (ds : List D) | ref (n : Nat) | scr (ns : List Int) | ty (n : String) | cls (c : Str) | opq
  deriving Inhabited
inductive Ob where
  | lst (ds : List D) | dic (lk : Bool) (kvs : List (L2.Key × D)) | ins (c : Str) (fs : List (Str × D))
  deriving Inhabited
abbrev Sto := List Ob
structure Xc where
  cls : Str
  fs : List (Str × D)
inductive R (α : Type) where
  | ok (a : α) (S : Sto) | exc (e : Xc) (S : Sto) | bad
def R.bind {α β : Type} (r : R α) (g : α → Sto → R β) : R β := match r with
  | .ok a S => g a S
  | .exc e S => .exc e S
  | .bad => .bad
structure Env where
  sl : List (Option D)
  xc : Option (Nat × Xc)
abbrev Fn := List D → Sto → R D
abbrev Sem := Env → Sto → R D
abbrev SemA := Env → Sto → R (List D)
abbrev SemT := Env → Sto → R Bool
inductive RS where
  | nx (ρ : Env) (S : Sto) | rt (d : D) (S : Sto) | exc (e : Xc) (ρ : Env) (S : Sto) | bad
abbrev Stm := Env → Sto → RS

/-! ### expressions -/
def mV (i : Nat) : Sem := fun ρ S => match ρ.sl[i]? with
  | some (some d) => .ok d S
  | _ => .bad
def mC (d : D) : Sem := fun _ S => .ok d S
def mOp (op : D → D → Sto → R D) (a b : Sem) : Sem := fun ρ S => (a ρ S).bind fun x S => (b ρ S).bind fun y S => op x y S
def mUn (op : D → Sto → R D) (a : Sem) : Sem := fun ρ S => (a ρ S).bind fun x S => op x S
def aNil : SemA := fun _ S => .ok [] S
def aCons (a : Sem) (r : SemA) : SemA := fun ρ S => (a ρ S).bind fun x S => (r ρ S).bind fun xs S => .ok (x :: xs) S
def mApp (fn : Fn) (a : SemA) : Sem := fun ρ S => (a ρ S).bind fun xs S => fn xs S
def mIf (t : SemT) (a b : Sem) : Sem := fun ρ S => (t ρ S).bind fun c S => if c then a ρ S else b ρ S
def mTup (a : SemA) : Sem := fun ρ S => (a ρ S).bind fun xs S => if xs.length ≤ sizeLine then .ok (.tup xs) S else .bad
def mLst (a : SemA) : Sem := fun ρ S => (a ρ S).bind fun xs S => if xs.length ≤ sizeLine then .ok (.ref S.length) (S ++ [.lst xs]) else .bad
/-- a test's value: a bool -/
def tB (a : Sem) : SemT := fun ρ S => (a ρ S).bind fun x S => match x with
  | .bl b => .ok b S
  | _ => .bad
def tAnd (a b : SemT) : SemT := fun ρ S => (a ρ S).bind fun x S => if x then b ρ S else .ok false S
def tOr (a b : SemT) : SemT := fun ρ S => (a ρ S).bind fun x S => if x then .ok true S else b ρ S
def tNot (a : SemT) : SemT := fun ρ S => (a ρ S).bind fun x S => .ok (!x) S
def mAnd (a b : Sem) : Sem := fun ρ S => (a ρ S).bind fun x S => match x with
  | .bl true => b ρ S
  | .bl false => .ok (.bl false) S
  | _ => .bad
def mOr (a b : Sem) : Sem := fun ρ S => (a ρ S).bind fun x S => match x with
  | .bl true => .ok (.bl true) S
  | .bl false => b ρ S
  | _ => .bad
def mNot (a : Sem) : Sem := fun ρ S => (a ρ S).bind fun x S => match x with
  | .bl b => .ok (.bl (!b)) S
  | _ => .bad

/-! ### statements -/
def RS.bind (r : RS) (g : Env → Sto → RS) : RS := match r with
  | .nx ρ S => g ρ S
  | .rt d S => .rt d S
  | .exc e ρ S => .exc e ρ S
  | .bad => .bad
def R.thn {α : Type} (r : R α) (ρ : Env) (g : α → Sto → RS) : RS := match r with
  | .ok a S => g a S
  | .exc e S => .exc e ρ S
  | .bad => .bad
def sNil : Stm := fun ρ S => .nx ρ S
def sSeq (a b : Stm) : Stm := fun ρ S => (a ρ S).bind fun ρ S => b ρ S
def sBad : Stm := fun _ _ => .bad
def Env.set (ρ : Env) (i : Nat) (d : D) : Env := ⟨ρ.sl.set i (some d), match ρ.xc with
  | some (j, e) => if j = i then none else some (j, e)
  | none => none⟩
def sSet (i : Nat) (a : Sem) : Stm := fun ρ S => (a ρ S).thn ρ fun d S => .nx (ρ.set i d) S
def sExp (a : Sem) : Stm := fun ρ S => (a ρ S).thn ρ fun _ S => .nx ρ S
def sRet (a : Sem) : Stm := fun ρ S => (a ρ S).thn ρ fun d S => .rt d S
def sRetN : Stm := fun _ S => .rt .non S
def sIf (t : SemT) (a b : Stm) : Stm := fun ρ S => (t ρ S).thn ρ fun c S => if c then a ρ S else b ρ S
def mkFn (n N : Nat) (body : Stm) : Fn := fun ds S => if ds.length = n then
  (match body ⟨ds.map some ++ List.replicate (N - n) none, none⟩ S with
  | .nx _ S => .ok .non S
  | .rt d S => .ok d S
  | .exc e _ S => .exc e S
  | .bad => .bad) else .bad
end Mx

namespace Mx
open PySem L2 PySem.Spec PyProof.Rows

/-! ### how data stand in the heap -/
section
variable (K : PySem.W.Frag)
mutual
def RelD (ι : List Addr) (H : Hp) : D → V → Prop
  | .non, v => v = .non
  | .bl b, v => v = .bl b
  | .int i, v => v = .int i
  | .str x, v => v = .str x
  | .tup ds, v => ∃ a vs, v = .ref a ∧ SqT K H a vs ∧ RelDs ι H ds vs
  | .ref n, v => ∃ a, ι[n]? = some a ∧ v = .ref a
  | .scr ns, v => ∃ a, v = .ref a ∧ ((∃ o, H a = some (.frz o (.lst (ns.map V.int)))) ∨ SqL K (fun _ => none) a (ns.map V.int))
  | .ty n, v => v = .ty n
  | .cls c, v => v = .ref (He.ga K c)
  | .opq, _ => True
def RelDs (ι : List Addr) (H : Hp) : List D → List V → Prop
  | [], vs => vs = []
  | d :: ds, vs => ∃ v r, vs = v :: r ∧ RelD ι H d v ∧ RelDs ι H ds r
end
def RelKV (ι : List Addr) (H : Hp) : List (Key × D) → List (Key × V) → Prop
  | [], vs => vs = []
  | (k, d) :: ds, vs => ∃ v r, vs = (k, v) :: r ∧ RelD K ι H d v ∧ RelKV ι H ds r
def RelF (ι : List Addr) (H : Hp) : List (Str × D) → List (Str × V) → Prop
  | [], vs => vs = []
  | (k, d) :: ds, vs => ∃ v r, vs = (k, v) :: r ∧ RelD K ι H d v ∧ RelF ι H ds r
def RelOb (ι : List Addr) (H : Hp) (a : Addr) : Ob → Prop
  | .lst ds => ∃ vs, H a = some (.lst vs) ∧ RelDs K ι H ds vs
  | .dic lk kvs => ∃ vs, (if lk = true then ∃ o, H a = some (.frz o (.dK vs)) else H a = some (.dK vs)) ∧ RelKV K ι H kvs vs
  | .ins c fs => ∃ dx vs, H a = some (.ins (He.ga K c) dx vs) ∧ RelF K ι H fs vs
structure Sim (ι : List Addr) (S : Sto) (H : Hp) : Prop where
  len : ι.length = S.length
  nd : ι.Nodup
  obs : ∀ (n : Nat) (ob : Ob), S[n]? = some ob → ∃ a, ι[n]? = some a ∧ RelOb K ι H a ob
def RelX (ι : List Addr) (H : Hp) (e : Xc) (dd : Option Addr) : Prop :=
  (e.fs = [] ∧ dd = none) ∨ ∃ d vs, dd = some d ∧ H d = some (.xd vs) ∧ RelF K ι H e.fs vs
end
/-- what never changes -/
def Imm : HO → Prop
  | .tup _ => True
  | .frz _ (.lst _) => True
  | .frz _ (.tup _) => True
  | .xd _ => True
  | _ => False
def Gr (H H' : Hp) : Prop := (∀ a o, H a = some o → Imm o → H' a = some o) ∧ (∀ a o, H a = some o → H' a ≠ none)
theorem Gr.refl (H : Hp) : Gr H H := ⟨fun _ _ h _ => h, fun _ _ h => by rw [h]; simp⟩
theorem Gr.trans {H H1 H2 : Hp} (a : Gr H H1) (b : Gr H1 H2) : Gr H H2 := ⟨fun x o h i => b.1 x o (a.1 x o h i) i, fun x o h => by
  cases q : H1 x with
  | none => exact absurd q (a.2 x o h)
  | some u => exact b.2 x u q⟩
theorem Gr.new {H : Hp} {p : Addr} {o : HO} (h : H p = none) : Gr H (upd H p o) := ⟨fun a u e _ => by
  rw [upd_ne (ne_of_none e h)]; exact e, fun a u e => by rw [upd_ne (ne_of_none e h), e]; simp⟩
theorem Gr.put {H : Hp} {p : Addr} {o u : HO} (h : H p = some u) (hi : ¬ Imm u) : Gr H (upd H p o) := ⟨fun a z e i => by
  by_cases q : a = p
  · subst q; rw [h] at e; cases e; exact absurd i hi
  · rw [upd_ne q]; exact e, fun a z e => by
  by_cases q : a = p
  · subst q; rw [upd_same]; simp
  · rw [upd_ne q, e]; simp⟩

section
variable {K : PySem.W.Frag} {ι ι' : List Addr} {H H' : Hp} {S : Sto}
theorem SqT.grow {a : Addr} {xs : List V} (g : Gr H H') (h : SqT K H a xs) : SqT K H' a xs := by
  rcases h with (h | ⟨o, h⟩) | h
  · exact .inl (.inl (g.1 _ _ h trivial))
  · exact .inl (.inr ⟨o, g.1 _ _ h trivial⟩)
  · exact .inr h
theorem pre_get {n : Nat} {a : Addr} (p : ι <+: ι') (h : ι[n]? = some a) : ι'[n]? = some a := by
  obtain ⟨t, rfl⟩ := p
  have hn : n < ι.length := (List.getElem?_eq_some_iff.mp h).1
  rw [List.getElem?_append_left hn]; exact h

mutual
theorem RelD.mono (p : ι <+: ι') (g : Gr H H') : ∀ {d : D} {v : V}, RelD K ι H d v → RelD K ι' H' d v
  | .non, v, h => by simpa [RelD] using h
  | .bl b, v, h => by simpa [RelD] using h
  | .int i, v, h => by simpa [RelD] using h
  | .str x, v, h => by simpa [RelD] using h
  | .tup ds, v, h => by
    unfold RelD at h ⊢
    obtain ⟨a, vs, e, ht, hd⟩ := h
    exact ⟨a, vs, e, SqT.grow g ht, RelDs.mono p g hd⟩
  | .ref n, v, h => by
    unfold RelD at h ⊢
    obtain ⟨a, e, q⟩ := h
    exact ⟨a, pre_get p e, q⟩
  | .scr ns, v, h => by
    unfold RelD at h ⊢
    obtain ⟨a, e, q⟩ := h
    refine ⟨a, e, ?_⟩
    rcases q with ⟨o, q⟩ | q
    · exact .inl ⟨o, g.1 _ _ q trivial⟩
    · exact .inr q
  | .ty n, v, h => by simpa [RelD] using h
  | .cls c, v, h => by simpa [RelD] using h
  | .opq, v, h => by unfold RelD; trivial
theorem RelDs.mono (p : ι <+: ι') (g : Gr H H') : ∀ {ds : List D} {vs : List V}, RelDs K ι H ds vs → RelDs K ι' H' ds vs
  | [], vs, h => by simpa [RelDs] using h
  | d :: ds, vs, h => by
    unfold RelDs at h ⊢
    obtain ⟨v, r, e, h1, h2⟩ := h
    exact ⟨v, r, e, RelD.mono p g h1, RelDs.mono p g h2⟩
end
theorem RelKV.mono (p : ι <+: ι') (g : Gr H H') : ∀ {ds : List (Key × D)} {vs : List (Key × V)}, RelKV K ι H ds vs → RelKV K ι' H' ds vs
  | [], vs, h => h
  | (k, d) :: ds, vs, ⟨v, r, e, h1, h2⟩ => ⟨v, r, e, RelD.mono p g h1, RelKV.mono p g h2⟩
theorem RelF.mono (p : ι <+: ι') (g : Gr H H') : ∀ {ds : List (Str × D)} {vs : List (Str × V)}, RelF K ι H ds vs → RelF K ι' H' ds vs
  | [], vs, h => h
  | (k, d) :: ds, vs, ⟨v, r, e, h1, h2⟩ => ⟨v, r, e, RelD.mono p g h1, RelF.mono p g h2⟩
/-- an object whose record stands as it stood -/
theorem RelOb.mono {a : Addr} (p : ι <+: ι') (g : Gr H H') (e : H' a = H a) : ∀ {ob : Ob}, RelOb K ι H a ob → RelOb K ι' H' a ob
  | .lst ds, ⟨vs, h, r⟩ => ⟨vs, by rw [e]; exact h, RelDs.mono p g r⟩
  | .dic lk kvs, ⟨vs, h, r⟩ => ⟨vs, by rw [e]; exact h, RelKV.mono p g r⟩
  | .ins c fs, ⟨dx, vs, h, r⟩ => ⟨dx, vs, by rw [e]; exact h, RelF.mono p g r⟩
theorem RelOb.there {a : Addr} : ∀ {ob : Ob}, RelOb K ι H a ob → ∃ o, H a = some o ∧ ¬ Imm o
  | .lst ds, ⟨vs, h, r⟩ => ⟨_, h, fun z => z⟩
  | .dic lk kvs, ⟨vs, h, r⟩ => by
    cases lk with
    | true =>
      obtain ⟨o, h⟩ : ∃ o, H a = some (.frz o (.dK vs)) := by simpa using h
      exact ⟨_, h, fun z => z⟩
    | false =>
      have h : H a = some (.dK vs) := by simpa using h
      exact ⟨_, h, fun z => z⟩
  | .ins c fs, ⟨dx, vs, h, r⟩ => ⟨_, h, fun z => z⟩
theorem Sim.at (s : Sim K ι S H) {n : Nat} {a : Addr} (h : ι[n]? = some a) : ∃ ob, S[n]? = some ob ∧ RelOb K ι H a ob := by
  have hn : n < ι.length := (List.getElem?_eq_some_iff.mp h).1
  rw [s.len] at hn
  obtain ⟨b, hb, r⟩ := s.obs n S[n] (List.getElem?_eq_getElem hn)
  rw [h] at hb; cases hb
  exact ⟨_, List.getElem?_eq_getElem hn, r⟩
theorem Sim.is (s : Sim K ι S H) {n : Nat} {a : Addr} {ob : Ob} (h : ι[n]? = some a) (e : S[n]? = some ob) : RelOb K ι H a ob := by
  obtain ⟨o, e2, r⟩ := s.at h
  rw [e] at e2; cases e2; exact r
theorem Sim.fresh (s : Sim K ι S H) {p : Addr} (h : H p = none) : p ∉ ι := fun hp => by
  obtain ⟨n, hn, e⟩ := List.getElem_of_mem hp
  obtain ⟨ob, _, r⟩ := s.at (show ι[n]? = some p by rw [List.getElem?_eq_getElem hn, e])
  obtain ⟨o, q, _⟩ := r.there
  rw [h] at q; cases q
theorem pre_snoc (ι : List Addr) (p : Addr) : ι <+: ι ++ [p] := ⟨[p], rfl⟩
/-- the heap grows by what is not in the store -/
theorem Sim.grow (s : Sim K ι S H) (g : Gr H H') (e : ∀ a ∈ ι, H' a = H a) : Sim K ι S H' := ⟨s.len, s.nd, fun n ob h => by
  obtain ⟨a, ha, r⟩ := s.obs n ob h
  exact ⟨a, ha, r.mono (List.prefix_refl ι) g (e a (List.mem_of_getElem? ha))⟩⟩
theorem Sim.new (s : Sim K ι S H) {p : Addr} {o : HO} (h : H p = none) : Sim K ι S (upd H p o) :=
  s.grow (Gr.new h) fun a ha => upd_ne fun z => s.fresh h (z ▸ ha)
/-- a new object of the store -/
theorem Sim.push (s : Sim K ι S H) {p : Addr} {o : HO} {ob : Ob} (h : H p = none) (r : RelOb K (ι ++ [p]) (upd H p o) p ob) : Sim K (ι ++ [p]) (S ++ [ob]) (upd H p o) := by
  have hp := s.fresh h
  refine ⟨by simp [s.len], ?_, fun n ob' e => ?_⟩
  · rw [List.nodup_append]
    exact ⟨s.nd, by simp, fun a ha b hb => by
      rw [List.mem_singleton] at hb
      subst hb
      exact fun z => hp (z ▸ ha)⟩
  · by_cases hn : n < S.length
    · rw [List.getElem?_append_left hn] at e
      obtain ⟨a, ha, ra⟩ := s.obs n ob' e
      refine ⟨a, pre_get (pre_snoc ι p) ha, ra.mono (pre_snoc ι p) (Gr.new h) (upd_ne fun z => hp (z ▸ List.mem_of_getElem? ha))⟩
    · rw [List.getElem?_append_right (Nat.le_of_not_lt hn)] at e
      have h0 : n - S.length = 0 := by
        by_cases z : n - S.length = 0
        · exact z
        · rw [List.getElem?_eq_none (by simp; omega)] at e; cases e
      rw [h0] at e
      cases e
      refine ⟨p, ?_, r⟩
      rw [List.getElem?_append_right (by rw [s.len]; omega), s.len, h0]
      rfl
/-- an object of the store changes -/
theorem Sim.put (s : Sim K ι S H) {n : Nat} {a : Addr} {o u : HO} {ob : Ob} (h : ι[n]? = some a) (hu : H a = some u) (hi : ¬ Imm u) (r : RelOb K ι (upd H a o) a ob) : Sim K ι (S.set n ob) (upd H a o) := by
  refine ⟨by simp [s.len], s.nd, fun m ob' e => ?_⟩
  by_cases hm : n = m
  · subst hm
    refine ⟨a, h, ?_⟩
    have hn : n < S.length := by rw [← s.len]; exact (List.getElem?_eq_some_iff.mp h).1
    rw [List.getElem?_set_self hn] at e
    cases e
    exact r
  · rw [List.getElem?_set_ne hm] at e
    obtain ⟨b, hb, rb⟩ := s.obs m ob' e
    refine ⟨b, hb, rb.mono (List.prefix_refl ι) (Gr.put hu hi) (upd_ne fun z => hm ?_)⟩
    subst z
    have h1 := List.getElem?_eq_some_iff.mp h
    have h2 := List.getElem?_eq_some_iff.mp hb
    obtain ⟨l1, e1⟩ := h1
    obtain ⟨l2, e2⟩ := h2
    exact (List.getElem_inj s.nd).mp (e1.trans e2.symm)
end
end Mx

namespace Mx
open PySem L2 PySem.Spec PyProof.Rows

/-- a caught exception's place, class, dict -/
abbrev XcP := Option (Addr × Value × Option Addr)
theorem RelX.mono {K : PySem.W.Frag} {ι ι' : List Addr} {H H' : Hp} {e : Xc} {dd : Option Addr} (p : ι <+: ι') (g : Gr H H') (h : RelX K ι H e dd) : RelX K ι' H' e dd := by
  rcases h with h2 | ⟨d, vs, rfl, hd, rf⟩
  · exact .inl h2
  · exact .inr ⟨d, vs, rfl, g.1 _ _ hd trivial, rf.mono p g⟩
structure RelE (K : PySem.W.Frag) (ι : List Addr) (H : Hp) (xc : XcP) (ρ : Env) (σ : L2.St) : Prop where
  len : ρ.sl.length = σ.length
  sl : ∀ (i : Nat) (d : D), ρ.sl[i]? = some (some d) → ∃ v, σ[i]? = some (some v) ∧ RelD K ι H d v
  xc : ∀ i e, ρ.xc = some (i, e) → ∃ a dd, xc = some (a, .ref (He.ga K e.cls), dd) ∧ RelX K ι H e dd ∧ σ[i]? = some (some (.ref a))
section
variable {K : PySem.W.Frag} {ι ι' : List Addr} {H H' : Hp} {S : Sto} {xc : XcP} {ρ : Env} {σ : L2.St}
theorem RelE.mono (p : ι <+: ι') (g : Gr H H') (r : RelE K ι H xc ρ σ) : RelE K ι' H' xc ρ σ :=
  ⟨r.len, fun i d h => by
    obtain ⟨v, hv, rv⟩ := r.sl i d h
    exact ⟨v, hv, rv.mono p g⟩, fun i e h => by
    obtain ⟨a, dd, h1, h2, h3⟩ := r.xc i e h
    exact ⟨a, dd, h1, h2.mono p g, h3⟩⟩
theorem RelE.set (r : RelE K ι H xc ρ σ) {i : Nat} {d : D} {v : V} (h : RelD K ι H d v) : RelE K ι H xc (ρ.set i d) (σ.set i (some v)) :=
  ⟨by show (ρ.sl.set i (some d)).length = _; simp [r.len], fun j e hj => by
    have hj : (ρ.sl.set i (some d))[j]? = some (some e) := hj
    by_cases q : i = j
    · subst q
      have hl : i < ρ.sl.length := by
        have := (List.getElem?_eq_some_iff.mp hj).1
        simpa using this
      rw [List.getElem?_set_self hl] at hj
      cases hj
      exact ⟨v, by rw [List.getElem?_set_self (by rw [← r.len]; exact hl)], h⟩
    · rw [List.getElem?_set_ne q] at hj
      obtain ⟨u, hu, ru⟩ := r.sl j e hj
      exact ⟨u, by rw [List.getElem?_set_ne q]; exact hu, ru⟩, fun j e hj => by
    unfold Env.set at hj
    cases q : ρ.xc with
    | none => rw [q] at hj; cases hj
    | some x =>
      rw [q] at hj
      obtain ⟨m, e0⟩ := x
      have hj : (if m = i then none else some (m, e0)) = some (j, e) := hj
      split at hj
      · cases hj
      · rename_i ne
        cases hj
        obtain ⟨a, dd, h1, h2, h3⟩ := r.xc j e q
        exact ⟨a, dd, h1, h2, by rw [List.getElem?_set_ne (Ne.symm ne)]; exact h3⟩⟩
end

/-! ### what a result asks -/
section
variable (K : PySem.W.Frag)
def Post {α β : Type} (Rel : List Addr → Hp → α → β → Prop) (ι : List Addr) (H : Hp) (r : R α) (Q : β → Hp → Prop) (E : XK) : Prop := match r with
  | .ok d S' => ∀ ι' v H', ι <+: ι' → Gr H H' → Sim K ι' S' H' → Rel ι' H' d v → Q v H'
  | .exc e S' => ∀ ι' dd H', ι <+: ι' → Gr H H' → Sim K ι' S' H' → RelX K ι' H' e dd → E (.ref (He.ga K e.cls)) dd H'
  | .bad => False
abbrev PostD (ι : List Addr) (H : Hp) (r : R D) (Q : VK) (E : XK) : Prop := Post K (RelD K) ι H r Q E
abbrev RelB : List Addr → Hp → Bool → Bool → Prop := fun _ _ a b => a = b
def PostS (xc : XcP) (W : WX) (ι : List Addr) (H : Hp) (r : RS) (D : Ends) : Prop := match r with
  | .nx ρ S' => ∀ ι' σ' H', ι <+: ι' → Gr H H' → Sim K ι' S' H' → RelE K ι' H' xc ρ σ' → D.nx σ' H'
  | .rt d S' => ∀ ι' v H', ι <+: ι' → Gr H H' → Sim K ι' S' H' → RelD K ι' H' d v → D.rt v H'
  | .exc e ρ S' => ∀ ι' σ' dd H', ι <+: ι' → Gr H H' → Sim K ι' S' H' → RelE K ι' H' xc ρ σ' → RelX K ι' H' e dd → W (.ref (He.ga K e.cls)) dd σ' H'
  | .bad => False
end
section
variable {K : PySem.W.Frag} {ι ι' : List Addr} {H H' : Hp} {S : Sto} {xc : XcP} {ρ : Env} {σ : L2.St} {W : WX}
theorem Post.mono {α β : Type} {Rel : List Addr → Hp → α → β → Prop} {r : R α} {Q : β → Hp → Prop} {E : XK} (p : ι <+: ι') (g : Gr H H') (h : Post K Rel ι H r Q E) : Post K Rel ι' H' r Q E := by
  cases r with
  | ok d S' => exact fun j v Hx q gx s r => h j v Hx (p.trans q) (g.trans gx) s r
  | exc e S' => exact fun j v Hx q gx s r => h j v Hx (p.trans q) (g.trans gx) s r
  | bad => exact h
theorem PostS.mono {r : RS} {D : Ends} (p : ι <+: ι') (g : Gr H H') (h : PostS K xc W ι H r D) : PostS K xc W ι' H' r D := by
  cases r with
  | nx d S' => exact fun j v Hx q gx s r => h j v Hx (p.trans q) (g.trans gx) s r
  | rt d S' => exact fun j v Hx q gx s r => h j v Hx (p.trans q) (g.trans gx) s r
  | exc e d S' => exact fun j v dd Hx q gx s r => h j v dd Hx (p.trans q) (g.trans gx) s r
  | bad => exact h
end

/-! ### readings -/
section
variable (K : PySem.W.Frag) (xc : XcP) (W : WX)
/-- where one stands: the slots, the store, and what is asked there -/
def At {β : Type} (σ : L2.St) (H : Hp) (P : List Addr → Env → Sto → Prop) : Prop := ∃ ι ρ S, RelE K ι H xc ρ σ ∧ Sim K ι S H ∧ P ι ρ S
def tM (f : Sem) : TE := fun σ H Q => ∃ ι ρ S, RelE K ι H xc ρ σ ∧ Sim K ι S H ∧ PostD K ι H (f ρ S) Q (WE W σ)
def tMT (f : SemT) : TT := fun σ H Q => ∃ ι ρ S, RelE K ι H xc ρ σ ∧ Sim K ι S H ∧ Post K RelB ι H (f ρ S) Q (WE W σ)
def tMA (f : SemA) : TA := fun σ H Q => ∃ ι ρ S, RelE K ι H xc ρ σ ∧ Sim K ι S H ∧ Post K (RelDs K) ι H (f ρ S) Q (WE W σ)
def tMS (f : Stm) : TS := fun D σ H => ∃ ι ρ S, RelE K ι H xc ρ σ ∧ Sim K ι S H ∧ PostS K xc W ι H (f ρ S) D
end
abbrev ME (X : Cx) (xc : XcP) (W : WX) (e : Expr) (f : Sem) : Prop := PE X e (tM X.K xc W f)
abbrev MT (X : Cx) (xc : XcP) (W : WX) (e : Expr) (f : SemT) : Prop := PT X e (tMT X.K xc W f)
abbrev MA (X : Cx) (xc : XcP) (W : WX) (es : List Expr) (f : SemA) : Prop := PA X es (tMA X.K xc W f)
abbrev MS (X : Cx) (xc : XcP) (W : WX) (st : Stmt) (f : Stm) : Prop := PS X st (tMS X.K xc W f)
abbrev MSs (X : Cx) (xc : XcP) (W : WX) (st : List Stmt) (f : Stm) : Prop := PSs X st (tMS X.K xc W f)
section
variable {X : Cx}
theorem _root_.L2.PE.weak {e : Expr} {t t' : TE} (h : PE X e t) (w : ∀ σ H Q, t' σ H Q → t σ H Q) : PE X e t' := ⟨fun pins s σ H Q I hw => h.run pins s σ H Q I (w _ _ _ hw)⟩
theorem _root_.L2.PT.weak {e : Expr} {t t' : TT} (h : PT X e t) (w : ∀ σ H Q, t' σ H Q → t σ H Q) : PT X e t' := ⟨fun pins s σ H Q I hw => h.run pins s σ H Q I (w _ _ _ hw)⟩
theorem _root_.L2.PA.weak {e : List Expr} {t t' : TA} (h : PA X e t) (w : ∀ σ H Q, t' σ H Q → t σ H Q) : PA X e t' := ⟨fun pos pins s σ H Q I hw => h.run pos pins s σ H Q I (w _ _ _ hw)⟩
theorem _root_.L2.PS.weak {e : Stmt} {t t' : TS} (h : PS X e t) (w : ∀ D σ H, t' D σ H → t D σ H) : PS X e t' := ⟨fun pins s σ H D I hw => h.run pins s σ H D I (w _ _ _ hw)⟩
theorem _root_.L2.PSs.weak {e : List Stmt} {t t' : TS} (h : PSs X e t) (w : ∀ D σ H, t' D σ H → t D σ H) : PSs X e t' := ⟨fun pins s σ H D I hw => h.run pins s σ H D I (w _ _ _ hw)⟩
end
/-! ### one after another -/
theorem TE.sub {K : PySem.W.Frag} {xc : XcP} {W : WX} {f : Sem} {σ : L2.St} {H : Hp} {Q Q' : VK} (h : tM K xc W f σ H Q) (w : ∀ v H', Q v H' → Q' v H') : tM K xc W f σ H Q' := by
  obtain ⟨ι, ρ, S, r, s, h⟩ := h
  refine ⟨ι, ρ, S, r, s, ?_⟩
  cases q : f ρ S with
  | ok d S' => rw [q] at h; exact fun j v Hx q gx s r => w _ _ (h j v Hx q gx s r)
  | exc e S' => rw [q] at h; exact h
  | bad => rw [q] at h; exact h
theorem TT.sub {K : PySem.W.Frag} {xc : XcP} {W : WX} {f : SemT} {σ : L2.St} {H : Hp} {Q Q' : Bool → Hp → Prop} (h : tMT K xc W f σ H Q) (w : ∀ v H', Q v H' → Q' v H') : tMT K xc W f σ H Q' := by
  obtain ⟨ι, ρ, S, r, s, h⟩ := h
  refine ⟨ι, ρ, S, r, s, ?_⟩
  cases q : f ρ S with
  | ok d S' => rw [q] at h; exact fun j v Hx q gx s r => w _ _ (h j v Hx q gx s r)
  | exc e S' => rw [q] at h; exact h
  | bad => rw [q] at h; exact h
theorem TA.sub {K : PySem.W.Frag} {xc : XcP} {W : WX} {f : SemA} {σ : L2.St} {H : Hp} {Q Q' : List V → Hp → Prop} (h : tMA K xc W f σ H Q) (w : ∀ v H', Q v H' → Q' v H') : tMA K xc W f σ H Q' := by
  obtain ⟨ι, ρ, S, r, s, h⟩ := h
  refine ⟨ι, ρ, S, r, s, ?_⟩
  cases q : f ρ S with
  | ok d S' => rw [q] at h; exact fun j v Hx q gx s r => w _ _ (h j v Hx q gx s r)
  | exc e S' => rw [q] at h; exact h
  | bad => rw [q] at h; exact h
theorem RelDs.length {K : PySem.W.Frag} {ι : List Addr} {H : Hp} : ∀ {ds : List D} {vs : List V}, RelDs K ι H ds vs → ds.length = vs.length
  | [], vs, h => by have h : vs = [] := by simpa [RelDs] using h
                    subst h; rfl
  | d :: ds, vs, h => by
    unfold RelDs at h
    obtain ⟨v, r, rfl, _, h2⟩ := h
    simp [RelDs.length h2]
section
variable {K : PySem.W.Frag} {ι : List Addr} {H : Hp} {S : Sto} {xc : XcP} {ρ : Env} {σ : L2.St} {W : WX}
/-- the general bind -/
theorem post_bind {α α' β β' : Type} {Rel : List Addr → Hp → α → β → Prop} {Rel' : List Addr → Hp → α' → β' → Prop} {r : R α} {g : α → Sto → R α'} {Q : β' → Hp → Prop} {E : XK}
    (h : Post K Rel' ι H (r.bind g) Q E) : Post K Rel ι H r (fun v H1 => ∃ ι1 d S1, ι <+: ι1 ∧ Gr H H1 ∧ Sim K ι1 S1 H1 ∧ Rel ι1 H1 d v ∧ Post K Rel' ι1 H1 (g d S1) Q E) E := by
  cases r with
  | ok d S' => exact fun j v Hx q gx s r => ⟨j, d, S', q, gx, s, r, h.mono q gx⟩
  | exc e S' => exact h
  | bad => exact h
theorem Post.imp {α β : Type} {Rel : List Addr → Hp → α → β → Prop} {r : R α} {Q Q' : β → Hp → Prop} {E : XK} (h : Post K Rel ι H r Q E) (w : ∀ v H', Q v H' → Q' v H') : Post K Rel ι H r Q' E := by
  cases r with
  | ok d S' => exact fun j v Hx q gx s r => w _ _ (h j v Hx q gx s r)
  | exc e S' => exact h
  | bad => exact h
theorem tM_bind {α' β' : Type} {Rel' : List Addr → Hp → α' → β' → Prop} {a : Sem} {g : D → Sto → R α'} {Q : β' → Hp → Prop} (r : RelE K ι H xc ρ σ) (s : Sim K ι S H) (h : Post K Rel' ι H ((a ρ S).bind g) Q (WE W σ)) :
    tM K xc W a σ H fun v H1 => ∃ ι1 d S1, ι <+: ι1 ∧ Gr H H1 ∧ RelE K ι1 H1 xc ρ σ ∧ Sim K ι1 S1 H1 ∧ RelD K ι1 H1 d v ∧ Post K Rel' ι1 H1 (g d S1) Q (WE W σ) :=
  ⟨ι, ρ, S, r, s, (post_bind h).imp fun v H1 ⟨j, d, S1, p, g, s1, rd, q⟩ => ⟨j, d, S1, p, g, r.mono p g, s1, rd, q⟩⟩
theorem tMT_bind {α' β' : Type} {Rel' : List Addr → Hp → α' → β' → Prop} {a : SemT} {g : Bool → Sto → R α'} {Q : β' → Hp → Prop} (r : RelE K ι H xc ρ σ) (s : Sim K ι S H) (h : Post K Rel' ι H ((a ρ S).bind g) Q (WE W σ)) :
    tMT K xc W a σ H fun v H1 => ∃ ι1 S1, ι <+: ι1 ∧ Gr H H1 ∧ RelE K ι1 H1 xc ρ σ ∧ Sim K ι1 S1 H1 ∧ Post K Rel' ι1 H1 (g v S1) Q (WE W σ) :=
  ⟨ι, ρ, S, r, s, (post_bind h).imp fun v H1 ⟨j, d, S1, p, g, s1, rd, q⟩ => by cases rd; exact ⟨j, S1, p, g, r.mono p g, s1, q⟩⟩
theorem tMA_bind {α' β' : Type} {Rel' : List Addr → Hp → α' → β' → Prop} {a : SemA} {g : List D → Sto → R α'} {Q : β' → Hp → Prop} (r : RelE K ι H xc ρ σ) (s : Sim K ι S H) (h : Post K Rel' ι H ((a ρ S).bind g) Q (WE W σ)) :
    tMA K xc W a σ H fun v H1 => ∃ ι1 d S1, ι <+: ι1 ∧ Gr H H1 ∧ RelE K ι1 H1 xc ρ σ ∧ Sim K ι1 S1 H1 ∧ RelDs K ι1 H1 d v ∧ Post K Rel' ι1 H1 (g d S1) Q (WE W σ) :=
  ⟨ι, ρ, S, r, s, (post_bind h).imp fun v H1 ⟨j, d, S1, p, g, s1, rd, q⟩ => ⟨j, d, S1, p, g, r.mono p g, s1, rd, q⟩⟩
/-- an expression ahead of a statement's rest -/
theorem tM_thn {a : Sem} {g : D → Sto → RS} {D : Ends} (r : RelE K ι H xc ρ σ) (s : Sim K ι S H) (h : PostS K xc W ι H ((a ρ S).thn ρ g) D) :
    tM K xc W a σ H fun v H1 => ∃ ι1 d S1, ι <+: ι1 ∧ Gr H H1 ∧ RelE K ι1 H1 xc ρ σ ∧ Sim K ι1 S1 H1 ∧ RelD K ι1 H1 d v ∧ PostS K xc W ι1 H1 (g d S1) D := by
  refine ⟨ι, ρ, S, r, s, ?_⟩
  cases q : a ρ S with
  | ok d S' =>
    rw [q] at h
    exact fun j v Hx q gx s1 rd => ⟨j, d, S', q, gx, r.mono q gx, s1, rd, PostS.mono q gx h⟩
  | exc e S' =>
    rw [q] at h
    exact fun j dd Hx q gx s1 rx => h j σ dd Hx q gx s1 (r.mono q gx) rx
  | bad => rw [q] at h; exact h
theorem tMT_thn {a : SemT} {g : Bool → Sto → RS} {D : Ends} (r : RelE K ι H xc ρ σ) (s : Sim K ι S H) (h : PostS K xc W ι H ((a ρ S).thn ρ g) D) :
    tMT K xc W a σ H fun v H1 => ∃ ι1 S1, ι <+: ι1 ∧ Gr H H1 ∧ RelE K ι1 H1 xc ρ σ ∧ Sim K ι1 S1 H1 ∧ PostS K xc W ι1 H1 (g v S1) D := by
  refine ⟨ι, ρ, S, r, s, ?_⟩
  cases q : a ρ S with
  | ok d S' =>
    rw [q] at h
    exact fun j v Hx q gx s1 rd => by cases rd; exact ⟨j, S', q, gx, r.mono q gx, s1, PostS.mono q gx h⟩
  | exc e S' =>
    rw [q] at h
    exact fun j dd Hx q gx s1 rx => h j σ dd Hx q gx s1 (r.mono q gx) rx
  | bad => rw [q] at h; exact h
/-- hand a result on -/
theorem Post.give {α β : Type} {Rel : List Addr → Hp → α → β → Prop} {d : α} {v : β} {Q : β → Hp → Prop} {E : XK} (s : Sim K ι S H) (h : Post K Rel ι H (.ok d S) Q E) (rd : Rel ι H d v) : Q v H :=
  h ι v H (List.prefix_refl ι) (Gr.refl H) s rd
/-- with a new object outside the store -/
theorem PostD.giveT {ds : List D} {vs : List V} {p : Addr} {Q : VK} {E : XK} (s : Sim K ι S H) (hp : H p = none) (rd : RelDs K ι H ds vs) (h : PostD K ι H (.ok (.tup ds) S) Q E) : Q (.ref p) (upd H p (.tup vs)) := by
  refine h ι _ _ (List.prefix_refl ι) (Gr.new hp) (s.new hp) ?_
  unfold RelD
  exact ⟨p, vs, rfl, SqT.of upd_same, RelDs.mono (List.prefix_refl ι) (Gr.new hp) rd⟩
theorem PostD.giveL {ds : List D} {vs : List V} {p : Addr} {Q : VK} {E : XK} (s : Sim K ι S H) (hp : H p = none) (rd : RelDs K ι H ds vs) (h : PostD K ι H (.ok (.ref S.length) (S ++ [.lst ds])) Q E) : Q (.ref p) (upd H p (.lst vs)) := by
  refine h (ι ++ [p]) _ _ (pre_snoc ι p) (Gr.new hp) (s.push hp ⟨vs, upd_same, RelDs.mono (pre_snoc ι p) (Gr.new hp) rd⟩) ?_
  unfold RelD
  exact ⟨p, by rw [← s.len, List.getElem?_append_right (Nat.le_refl _)]; simp, rfl⟩
end
end Mx

namespace Mx
open PySem L2 PySem.Spec PyProof.Rows
section
variable {X : Cx} {xc : XcP} {W : WX}

/-! ### names, constants -/
theorem me_v (i : Nat) {x : Str} {pos : Pos} (hN : X.N[i]? = some x := by rfl) (hv : Vis X.env.scope x := by first | exact Or.inl rfl | exact Or.inr (Or.inl rfl) | exact Or.inr (Or.inr rfl)) (hd : (x == ("__debug__" : Str)) = false := by decide)
    (hcd : (x == ("__classdict__" : Str)) = false := by decide) : ME X xc W (.Name x pos) (mV i) :=
  (pe_var hN hv hd hcd).weak fun σ H Q ⟨ι, ρ, S, r, s, h⟩ => by
    unfold mV at h
    split at h
    · rename_i d e
      obtain ⟨v, hv, rv⟩ := r.sl i d e
      exact ⟨v, hv, h.give s rv⟩
    · exact h.elim
theorem const_weak {e : Expr} {v : V} {d : D} (h : PE X e (tC v)) (hd : ∀ ι H, RelD X.K ι H d v) : ME X xc W e (mC d) :=
  h.weak fun σ H Q ⟨ι, ρ, S, r, s, h⟩ => h.give s (hd ι H)
theorem me_int {i j pos} : ME X xc W (.Constant (.int i) j pos) (mC (.int i)) := const_weak pe_int fun _ _ => by simp [RelD]
theorem me_str {i j pos} : ME X xc W (.Constant (.str i) j pos) (mC (.str i)) := const_weak pe_str fun _ _ => by simp [RelD]
theorem me_bl {i j pos} : ME X xc W (.Constant (.bool i) j pos) (mC (.bl i)) := const_weak pe_bl fun _ _ => by simp [RelD]
theorem me_non {j pos} : ME X xc W (.Constant .none j pos) (mC .non) := const_weak pe_non fun _ _ => by simp [RelD]
theorem me_gint {x : Str} {i : Int} {pos : Pos} (hm : ∃ t, X.mg x = some (.int i t)) (hg : Gl X x := by rfl) (hd : (x == ("__debug__" : Str)) = false := by decide) : ME X xc W (.Name x pos) (mC (.int i)) := by
  obtain ⟨t, e⟩ := hm
  exact const_weak (pe_glob hg e (v := .int i) ⟨t, rfl⟩ hd) fun _ _ => by simp [RelD]
theorem me_gstr {x : Str} {i : Str} {pos : Pos} (hm : ∃ t, X.mg x = some (.str i t)) (hg : Gl X x := by rfl) (hd : (x == ("__debug__" : Str)) = false := by decide) : ME X xc W (.Name x pos) (mC (.str i)) := by
  obtain ⟨t, e⟩ := hm
  exact const_weak (pe_glob hg e (v := .str i) ⟨t, rfl⟩ hd) fun _ _ => by simp [RelD]
/-- a module's own object: told by what it is -/
theorem me_gref {x : Str} {a : Addr} {d : D} {pos : Pos} (hm : X.mg x = some (.ref a)) (hr : ∀ ι H, RelD X.K ι H d (.ref a)) (hg : Gl X x := by rfl) (hd : (x == ("__debug__" : Str)) = false := by decide) : ME X xc W (.Name x pos) (mC d) :=
  const_weak (pe_glob hg hm (v := .ref a) rfl hd) hr

/-! ### operators -/
/-- an operation on data is what the operator does -/
def OpM (X : Cx) (f : Value → Value → PySem.Sem Value) (op : D → D → Sto → R D) : Prop :=
  ∃ r, OpR X f r ∧ ∀ (ι : List Addr) (H : Hp) (S : Sto) (a b : D) (v w : V) (Q : VK) (E : XK), Sim X.K ι S H → RelD X.K ι H a v → RelD X.K ι H b w → PostD X.K ι H (op a b S) Q E → r v w H Q
def UnM (X : Cx) (f : Value → PySem.Sem Value) (op : D → Sto → R D) : Prop :=
  ∃ r, UnR X f r ∧ ∀ (ι : List Addr) (H : Hp) (S : Sto) (a : D) (v : V) (Q : VK) (E : XK), Sim X.K ι S H → RelD X.K ι H a v → PostD X.K ι H (op a S) Q E → r v H Q
def CallM (X : Cx) (f : Value) (op : Fn) : Prop :=
  ∃ r, CallR X f r ∧ ∀ (ι : List Addr) (H : Hp) (S : Sto) (a : List D) (v : List V) (Q : VK) (E : XK), Sim X.K ι S H → RelDs X.K ι H a v → PostD X.K ι H (op a S) Q E → r v H Q
theorem op_weak {r : R2} {op : D → D → Sto → R D} {fa fb : Sem} (hr : ∀ (ι : List Addr) (H : Hp) (S : Sto) (a b : D) (v w : V) (Q : VK) (E : XK), Sim X.K ι S H → RelD X.K ι H a v → RelD X.K ι H b w → PostD X.K ι H (op a b S) Q E → r v w H Q)
    (σ : L2.St) (H : Hp) (Q : VK) (h : tM X.K xc W (mOp op fa fb) σ H Q) : tOp r (tM X.K xc W fa) (tM X.K xc W fb) σ H Q := by
  obtain ⟨ι, ρ, S, re, s, h⟩ := h
  refine TE.sub (tM_bind re s h) ?_
  rintro v H1 ⟨ι1, d1, S2, p1, g1, re1, s1, rd1, h1⟩
  refine TE.sub (tM_bind re1 s1 h1) ?_
  rintro w H2 ⟨ι2, d2, S4, p2, g2, re2, s2, rd2, h2⟩
  exact hr ι2 H2 S4 d1 d2 v w Q _ s2 (rd1.mono p2 g2) rd2 h2
theorem me_op {o : Operator} {op : D → D → Sto → R D} {a b : Expr} {fa fb : Sem} {pos : Pos} (ho : OpM X (binaryOp o) op) (ha : ME X xc W a fa) (hb : ME X xc W b fb) : ME X xc W (.BinOp a o b pos) (mOp op fa fb) := by
  obtain ⟨r, h1, h2⟩ := ho
  exact (pe_op h1 ha hb).weak fun σ H Q h => op_weak h2 σ H Q h
theorem me_cmp {o : CmpOp} {op : D → D → Sto → R D} {a b : Expr} {fa fb : Sem} {pos : Pos} (ho : OpM X (compareOp o) op) (ha : ME X xc W a fa) (hb : ME X xc W b fb) (hm : behindInMarks o b = false := by rfl) : ME X xc W (.Compare a [o] [b] pos) (mOp op fa fb) := by
  obtain ⟨r, h1, h2⟩ := ho
  exact (pe_cmpR h1 ha hb hm).weak fun σ H Q h => op_weak h2 σ H Q h
theorem me_un {o : UnaryOp} {op : D → Sto → R D} {a : Expr} {fa : Sem} {pos : Pos} (ho : UnM X (unaryOp o) op) (ha : ME X xc W a fa) : ME X xc W (.UnaryOp o a pos) (mUn op fa) := by
  obtain ⟨r, h1, h2⟩ := ho
  refine (pe_un h1 ha).weak fun σ H Q ⟨ι, ρ, S, re, s, h⟩ => ?_
  refine TE.sub (tM_bind re s h) ?_
  rintro v H1 ⟨ι1, d1, S2, p1, g1, re1, s1, rd1, h1⟩
  exact h2 ι1 H1 S2 d1 v Q _ s1 rd1 h1

/-! ### arguments, displays, calls of built-ins -/
theorem ma_nil : MA X xc W [] aNil := pa_nil.weak fun σ H Q ⟨ι, ρ, S, re, s, h⟩ => h.give s rfl
theorem ma_cons {e : Expr} {es : List Expr} {fa : Sem} {fr : SemA} (ha : ME X xc W e fa) (hr : MA X xc W es fr) (hs : starEach (e :: es) X.env = (false, eval e X.env) :: starEach es X.env := by rfl) : MA X xc W (e :: es) (aCons fa fr) := by
  refine (pa_cons ha hr hs).weak fun σ H Q ⟨ι, ρ, S, re, s, h⟩ => ?_
  refine TE.sub (tM_bind re s h) ?_
  rintro v H1 ⟨ι1, d1, S2, p1, g1, re1, s1, rd1, h1⟩
  refine TA.sub (tMA_bind re1 s1 h1) ?_
  rintro vs H2 ⟨ι2, d2, S4, p2, g2, re2, s2, rd2, h2⟩
  exact h2.give s2 ⟨v, vs, rfl, rd1.mono p2 g2, rd2⟩
theorem me_tup {es : List Expr} {fr : SemA} {k : Nat} {pos : Pos} (h : MA X xc W es fr) : ME X xc W (.Tuple es k pos) (mTup fr) := by
  refine (pe_tup h).weak fun σ H Q ⟨ι, ρ, S, re, s, h⟩ => ?_
  refine TA.sub (tMA_bind re s h) ?_
  rintro vs H2 ⟨ι2, d2, S4, p2, g2, re2, s2, rd2, h2⟩
  split at h2
  · rename_i hl
    exact ⟨by rw [← rd2.length]; exact hl, fun p hp => PostD.giveT s2 hp rd2 h2⟩
  · exact h2.elim
theorem me_lst {es : List Expr} {fr : SemA} {pos : Pos} (h : MA X xc W es fr) : ME X xc W (.List es pos) (mLst fr) := by
  refine (pe_lst h).weak fun σ H Q ⟨ι, ρ, S, re, s, h⟩ => ?_
  refine TA.sub (tMA_bind re s h) ?_
  rintro vs H2 ⟨ι2, d2, S4, p2, g2, re2, s2, rd2, h2⟩
  split at h2
  · rename_i hl
    exact ⟨by rw [← rd2.length]; exact hl, fun p hp => PostD.giveL s2 hp rd2 h2⟩
  · exact h2.elim
theorem me_callB {x : Str} {id : String} {fn : Fn} {e : Expr} {es : List Expr} {fa : SemA} {p pos : Pos} (hc : CallM X (.builtin id) fn) (hm : X.mg x = none) (hv : bootBuiltins x = some (.builtin id)) (ha : MA X xc W (e :: es) fa) (hg : Gl X x := by rfl)
    (hn : x ≠ "__name__" := by decide) (hdb : (x == ("__debug__" : Str)) = false := by decide) (he : starEach (e :: es) X.env = (false, eval e X.env) :: starEach es X.env := by rfl) (hpl : (backTo pos (starEach es X.env)).any (·.1) = false := by rfl) :
    ME X xc W (.Call (.Name x p) (e :: es) [] pos) (mApp fn fa) := by
  obtain ⟨r, h1, h2⟩ := hc
  refine (pe_callB h1 hg hm hv ha hn hdb he hpl).weak fun σ H Q ⟨ι, ρ, S, re, s, h⟩ => ?_
  refine TA.sub (tMA_bind re s h) ?_
  rintro vs H2 ⟨ι2, d2, S4, p2, g2, re2, s2, rd2, q⟩
  exact h2 ι2 H2 S4 d2 vs Q _ s2 rd2 q
theorem me_callTy {x : Str} {T : String} {fn : Fn} {e : Expr} {es : List Expr} {fa : SemA} {p pos : Pos} (hc : CallM X (.type T) fn) (hm : X.mg x = none) (hv : bootBuiltins x = some (.type T)) (ha : MA X xc W (e :: es) fa) (hg : Gl X x := by rfl)
    (hn : x ≠ "__name__" := by decide) (hdb : (x == ("__debug__" : Str)) = false := by decide) (he : starEach (e :: es) X.env = (false, eval e X.env) :: starEach es X.env := by rfl) (hpl : (backTo pos (starEach es X.env)).any (·.1) = false := by rfl) :
    ME X xc W (.Call (.Name x p) (e :: es) [] pos) (mApp fn fa) := by
  obtain ⟨r, h1, h2⟩ := hc
  refine (pe_callTy h1 hg hm hv ha hn hdb he hpl).weak fun σ H Q ⟨ι, ρ, S, re, s, h⟩ => ?_
  refine TA.sub (tMA_bind re s h) ?_
  rintro vs H2 ⟨ι2, d2, S4, p2, g2, re2, s2, rd2, q⟩
  exact h2 ι2 H2 S4 d2 vs Q _ s2 rd2 q

/-! ### tests -/
theorem mt_b {e : Expr} {f : Sem} (h : ME X xc W e f) (he : ∀ whole, isTrue e X.env whole = (do let v ← whole; standAt e.pos; holding [v] (truthy v)) := by intro _; rfl) : MT X xc W e (tB f) := by
  refine (pt_truth h he).weak fun σ H Q ⟨ι, ρ, S, re, s, h⟩ => ?_
  refine TE.sub (tM_bind re s h) ?_
  rintro v H1 ⟨ι1, d1, S2, p1, g1, re1, s1, rd1, h1⟩
  split at h1
  · rename_i b
    have e : v = .bl b := by simpa [RelD] using rd1
    subst e
    exact ⟨b, rfl, h1.give s1 rfl⟩
  · exact h1.elim
theorem mt_cmp {o : CmpOp} {op : D → D → Sto → R D} {a b : Expr} {fa fb : Sem} {pos : Pos} (ho : OpM X (compareOp o) op) (ha : ME X xc W a fa) (hb : ME X xc W b fb) (hm : behindInMarks o b = false := by rfl) : MT X xc W (.Compare a [o] [b] pos) (tB (mOp op fa fb)) := by
  obtain ⟨r, h1, h2⟩ := ho
  refine (pt_cmpR h1 ha hb hm).weak fun σ H Q ⟨ι, ρ, S, re, s, h⟩ => ?_
  refine op_weak h2 σ H _ ⟨ι, ρ, S, re, s, (post_bind h).imp ?_⟩
  rintro v H1 ⟨ι1, d1, S2, p1, g1, s1, rd1, h1⟩
  split at h1
  · rename_i b
    have e : v = .bl b := by simpa [RelD] using rd1
    subst e
    exact ⟨b, rfl, h1.give s1 rfl⟩
  · exact h1.elim
end
end Mx

namespace Mx
open PySem L2 PySem.Spec PyProof.Rows
section
variable {X : Cx} {xc : XcP} {W : WX}
theorem TS.sub {K : PySem.W.Frag} {xc : XcP} {W : WX} {f : Stm} {σ : L2.St} {H : Hp} {D D' : Ends} (h : tMS K xc W f D σ H) (w1 : ∀ s H', D.nx s H' → D'.nx s H') (w2 : ∀ s H', D.rt s H' → D'.rt s H') : tMS K xc W f D' σ H := by
  obtain ⟨ι, ρ, S, r, s, h⟩ := h
  refine ⟨ι, ρ, S, r, s, ?_⟩
  cases q : f ρ S with
  | nx d S' => rw [q] at h; exact fun j v Hx q gx s r => w1 _ _ (h j v Hx q gx s r)
  | rt d S' => rw [q] at h; exact fun j v Hx q gx s r => w2 _ _ (h j v Hx q gx s r)
  | exc e d S' => rw [q] at h; exact h
  | bad => rw [q] at h; exact h
theorem PostS.give {K : PySem.W.Frag} {ι : List Addr} {H : Hp} {S : Sto} {ρ : Env} {σ : L2.St} {D : Ends} (s : Sim K ι S H) (r : RelE K ι H xc ρ σ) (h : PostS K xc W ι H (.nx ρ S) D) : D.nx σ H :=
  h ι σ H (List.prefix_refl ι) (Gr.refl H) s r
theorem PostS.giveR {K : PySem.W.Frag} {ι : List Addr} {H : Hp} {S : Sto} {d : D} {v : V} {D : Ends} (s : Sim K ι S H) (r : RelD K ι H d v) (h : PostS K xc W ι H (.rt d S) D) : D.rt v H :=
  h ι v H (List.prefix_refl ι) (Gr.refl H) s r
/-! ### blocks -/
theorem ss_nil : MSs X xc W [] sNil := pss_nil.weak fun D σ H ⟨ι, ρ, S, r, s, h⟩ => h.give s r
theorem ss_bad {st : List Stmt} : MSs X xc W st sBad := pss_never.weak fun D σ H ⟨ι, ρ, S, r, s, h⟩ => h
theorem seq_weak {f g : Stm} {D : Ends} {σ : L2.St} {H : Hp} (h : tMS X.K xc W (sSeq f g) D σ H) : tMS X.K xc W f { D with nx := tMS X.K xc W g D } σ H := by
  obtain ⟨ι, ρ, S, r, s, h⟩ := h
  refine ⟨ι, ρ, S, r, s, ?_⟩
  have h : PostS X.K xc W ι H ((f ρ S).bind fun ρ S => g ρ S) D := h
  cases q : f ρ S with
  | nx d S' => rw [q] at h; exact fun j v Hx q gx s r => ⟨j, d, S', r, s, h.mono q gx⟩
  | rt d S' => rw [q] at h; exact h
  | exc e d S' => rw [q] at h; exact h
  | bad => rw [q] at h; exact h
theorem ss_cons {st : Stmt} {rest : List Stmt} {f g : Stm} (h1 : MS X xc W st f) (h2 : MSs X xc W rest g) : MSs X xc W (st :: rest) (sSeq f g) :=
  (pss_cons h1 h2).weak fun D σ H h => seq_weak h
theorem ss_one {st : Stmt} {f : Stm} (h1 : MS X xc W st f) : MSs X xc W [st] f := pss_one h1
/-! ### plain statements -/
theorem ms_bad {st : Stmt} : MS X xc W st sBad := ps_never.weak fun D σ H ⟨ι, ρ, S, r, s, h⟩ => h
theorem ms_pass {pos : Pos} : MS X xc W (.Pass pos) sNil := ps_pass.weak fun D σ H ⟨ι, ρ, S, r, s, h⟩ => h.give s r
theorem ms_exp {e : Expr} {f : Sem} {pos : Pos} (h : ME X xc W e f) (hs : swapsWith e none pos.line X.env = pure false := by rfl) : MS X xc W (.Expr e pos) (sExp f) := by
  refine (ps_expr h hs).weak fun D σ H ⟨ι, ρ, S, r, s, h⟩ => ?_
  refine TE.sub (tM_thn r s h) ?_
  rintro v H1 ⟨ι1, d1, S2, p1, g1, re1, s1, rd1, h1⟩
  exact h1.give s1 re1
theorem ms_ret {e : Expr} {f : Sem} {pos : Pos} (h : ME X xc W e f) : MS X xc W (.Return (some e) pos) (sRet f) := by
  refine (ps_ret h).weak fun D σ H ⟨ι, ρ, S, r, s, h⟩ => ?_
  refine TE.sub (tM_thn r s h) ?_
  rintro v H1 ⟨ι1, d1, S2, p1, g1, re1, s1, rd1, h1⟩
  exact h1.giveR s1 rd1
theorem ms_retN {pos : Pos} : MS X xc W (.Return none pos) sRetN := ps_retN.weak fun D σ H ⟨ι, ρ, S, r, s, h⟩ => h.giveR s (by simp [RelD])
theorem ms_set {i : Nat} {x : Str} {e : Expr} {f : Sem} {pos pos' : Pos} (h : ME X xc W e f) (hN : X.N.Nodup) (hi : X.N[i]? = some x := by rfl) (hx : Loc X.env.scope x := by first | exact Or.inl rfl | exact Or.inr rfl)
    (hs : swapsWith e (some (.Name x pos')) pos.line X.env = pure false := by rfl) (hf : X.fn x = true ∨ X.env.scope.names.lookup x = some .local := by first | exact .inl rfl | exact .inr rfl | assumption) : MS X xc W (.Assign [.Name x pos'] e pos) (sSet i f) := by
  refine (ps_set hN hi hx h hs hf).weak fun D σ H ⟨ι, ρ, S, r, s, h⟩ => ?_
  refine TE.sub (tM_thn r s h) ?_
  rintro v H1 ⟨ι1, d1, S2, p1, g1, re1, s1, rd1, h1⟩
  exact h1.give s1 (re1.set rd1)
theorem ms_if {c : Expr} {a b : List Stmt} {t : SemT} {f g : Stm} {pos : Pos} (hc : MT X xc W c t) (ha : MSs X xc W a f) (hb : MSs X xc W b g) : MS X xc W (.If c a b pos) (sIf t f g) := by
  refine (ps_if hc ha hb).weak fun D σ H ⟨ι, ρ, S, r, s, h⟩ => ?_
  refine TT.sub (tMT_thn r s h) ?_
  rintro v H1 ⟨ι1, S2, p1, g1, re1, s1, h1⟩
  cases v with
  | true => exact ⟨ι1, ρ, S2, re1, s1, h1⟩
  | false => exact ⟨ι1, ρ, S2, re1, s1, h1⟩
end
end Mx

namespace Mx
open PySem L2 PySem.Spec PyProof.Rows
theorem _root_.L2.PW.weak {X : Cx} {e : Expr} {t t' : TT} (h : PW X e t) (w : ∀ σ H Q, t' σ H Q → t σ H Q) : PW X e t' := ⟨fun wh pins s σ H Q I hw => h.run wh pins s σ H Q I (w _ _ _ hw)⟩
abbrev MW (X : Cx) (xc : XcP) (W : WX) (e : Expr) (f : SemT) : Prop := PW X e (tMT X.K xc W f)
/-- a chain of two comparisons: the middle one asked once -/
def mChain (op op' : D → D → Sto → R D) (a b c : Sem) : Sem := fun ρ S => (a ρ S).bind fun x S => (b ρ S).bind fun y S => (op x y S).bind fun z S => match z with
  | .bl true => (c ρ S).bind fun w S => op' y w S
  | .bl false => .ok (.bl false) S
  | _ => .bad
section
variable {X : Cx} {xc : XcP} {W : WX} {a b c e : Expr} {rest : List Expr} {pos : Pos}
theorem mt_w {f : SemT} (h : MW X xc W e f) : MT X xc W e f := h.pt
theorem mw_and1 {f : SemT} (h : MT X xc W a f) : MW X xc W (.BoolOp .And [a] pos) f := pw_and1 h
theorem mw_or1 {f : SemT} (h : MT X xc W a f) : MW X xc W (.BoolOp .Or [a] pos) f := pw_or1 h
theorem mw_and {f g : SemT} (ha : MT X xc W a f) (hb : MW X xc W (.BoolOp .And (b :: rest) pos) g) : MW X xc W (.BoolOp .And (a :: b :: rest) pos) (Mx.tAnd f g) := by
  refine (pw_and ha hb).weak fun σ H Q ⟨ι, ρ, S, r, s, h⟩ => ?_
  refine TT.sub (tMT_bind r s h) ?_
  rintro v H1 ⟨ι1, S2, p1, g1, re1, s1, h1⟩
  cases v with
  | true => exact ⟨ι1, ρ, S2, re1, s1, h1⟩
  | false => exact h1.give s1 rfl
theorem mw_or {f g : SemT} (ha : MT X xc W a f) (hb : MW X xc W (.BoolOp .Or (b :: rest) pos) g) : MW X xc W (.BoolOp .Or (a :: b :: rest) pos) (Mx.tOr f g) := by
  refine (pw_or ha hb).weak fun σ H Q ⟨ι, ρ, S, r, s, h⟩ => ?_
  refine TT.sub (tMT_bind r s h) ?_
  rintro v H1 ⟨ι1, S2, p1, g1, re1, s1, h1⟩
  cases v with
  | false => exact ⟨ι1, ρ, S2, re1, s1, h1⟩
  | true => exact h1.give s1 rfl
theorem mt_not {f : SemT} (ha : MT X xc W a f) : MT X xc W (.UnaryOp .Not a pos) (Mx.tNot f) := by
  refine (pt_not ha).weak fun σ H Q ⟨ι, ρ, S, r, s, h⟩ => ?_
  refine TT.sub (tMT_bind r s h) ?_
  rintro v H1 ⟨ι1, S2, p1, g1, re1, s1, h1⟩
  exact h1.give s1 rfl
theorem me_one {op : PySem.BoolOp} {f : Sem} (h : ME X xc W a f) : ME X xc W (.BoolOp op [a] pos) f := pe_one h
theorem me_and {f g : Sem} (ha : ME X xc W a f) (hb : ME X xc W (.BoolOp .And (b :: rest) pos) g) : ME X xc W (.BoolOp .And (a :: b :: rest) pos) (mAnd f g) := by
  refine (pe_and ha hb).weak fun σ H Q ⟨ι, ρ, S, r, s, h⟩ => ?_
  refine TE.sub (tM_bind r s h) ?_
  rintro v H1 ⟨ι1, d1, S2, p1, g1, re1, s1, rd1, h1⟩
  split at h1
  · have e : v = .bl true := by simpa [RelD] using rd1
    exact ⟨true, e, ι1, ρ, S2, re1, s1, h1⟩
  · have e : v = .bl false := by simpa [RelD] using rd1
    exact ⟨false, e, h1.give s1 (by simp [RelD])⟩
  · exact h1.elim
theorem me_or {f g : Sem} (ha : ME X xc W a f) (hb : ME X xc W (.BoolOp .Or (b :: rest) pos) g) : ME X xc W (.BoolOp .Or (a :: b :: rest) pos) (mOr f g) := by
  refine (pe_or ha hb).weak fun σ H Q ⟨ι, ρ, S, r, s, h⟩ => ?_
  refine TE.sub (tM_bind r s h) ?_
  rintro v H1 ⟨ι1, d1, S2, p1, g1, re1, s1, rd1, h1⟩
  split at h1
  · have e : v = .bl true := by simpa [RelD] using rd1
    exact ⟨true, e, h1.give s1 (by simp [RelD])⟩
  · have e : v = .bl false := by simpa [RelD] using rd1
    exact ⟨false, e, ι1, ρ, S2, re1, s1, h1⟩
  · exact h1.elim
theorem me_not {f : Sem} (ha : ME X xc W a f) : ME X xc W (.UnaryOp .Not a pos) (mNot f) := by
  refine (pe_not ha).weak fun σ H Q ⟨ι, ρ, S, r, s, h⟩ => ?_
  refine TE.sub (tM_bind r s h) ?_
  rintro v H1 ⟨ι1, d1, S2, p1, g1, re1, s1, rd1, h1⟩
  split at h1
  · rename_i k
    have e : v = .bl k := by simpa [RelD] using rd1
    exact ⟨k, e, h1.give s1 (by simp [RelD])⟩
  · exact h1.elim
theorem me_if {t : SemT} {f g : Sem} (hc : MT X xc W c t) (ha : ME X xc W a f) (hb : ME X xc W b g) : ME X xc W (.IfExp c a b pos) (mIf t f g) := by
  refine (pe_ifExp hc ha hb).weak fun σ H Q ⟨ι, ρ, S, r, s, h⟩ => ?_
  refine TT.sub (tMT_bind r s h) ?_
  rintro v H1 ⟨ι1, S2, p1, g1, re1, s1, h1⟩
  cases v with
  | true => exact ⟨ι1, ρ, S2, re1, s1, h1⟩
  | false => exact ⟨ι1, ρ, S2, re1, s1, h1⟩
theorem chain_weak {r r' : R2} {op op' : D → D → Sto → R D} {fa fb fc : Sem} (h2 : ∀ (ι : List Addr) (H : Hp) (S : Sto) (a b : D) (v w : V) (Q : VK) (E : XK), Sim X.K ι S H → RelD X.K ι H a v → RelD X.K ι H b w → PostD X.K ι H (op a b S) Q E → r v w H Q)
    (h3 : ∀ (ι : List Addr) (H : Hp) (S : Sto) (a b : D) (v w : V) (Q : VK) (E : XK), Sim X.K ι S H → RelD X.K ι H a v → RelD X.K ι H b w → PostD X.K ι H (op' a b S) Q E → r' v w H Q) (σ : L2.St) (H : Hp) (Q : VK) (h : tM X.K xc W (mChain op op' fa fb fc) σ H Q) :
    tM X.K xc W fa σ H fun x H1 => tM X.K xc W fb σ H1 fun y H2 => r x y H2 fun z H3 => ∃ k, z = .bl k ∧ if k = true then tM X.K xc W fc σ H3 fun w H4 => r' y w H4 Q else Q (.bl false) H3 := by
  obtain ⟨ι, ρ, S, re, s, h⟩ := h
  refine TE.sub (tM_bind re s h) ?_
  rintro v H1 ⟨ι1, d1, S1, p1, g1, re1, s1, rd1, h1⟩
  refine TE.sub (tM_bind re1 s1 h1) ?_
  rintro w H2 ⟨ι2, d2, S2, p2, g2, re2, s2, rd2, hh⟩
  refine h2 ι2 H2 S2 d1 d2 v w _ (WE W σ) s2 (rd1.mono p2 g2) rd2 ((post_bind hh).imp ?_)
  rintro z H3 ⟨ι3, d3, S3, p3, g3, s3, rd3, h4⟩
  split at h4
  · have e : z = .bl true := by simpa [RelD] using rd3
    refine ⟨true, e, ?_⟩
    rw [if_pos rfl]
    refine TE.sub (tM_bind (re2.mono p3 g3) s3 h4) ?_
    rintro u H4 ⟨ι4, d4, S4, p4, g4, re4, s4, rd4, h5⟩
    exact h3 ι4 H4 S4 d2 d4 w u _ _ s4 (rd2.mono (p3.trans p4) (g3.trans g4)) rd4 h5
  · have e : z = .bl false := by simpa [RelD] using rd3
    refine ⟨false, e, ?_⟩
    exact h4.give s3 (by simp [RelD])
  · exact h4.elim
end
end Mx

namespace Mx
open PySem L2 PySem.Spec PyProof.Rows
/-- what a def promises: its own function of data and store -/
def spM (K : PySem.W.Frag) (fn : Fn) : Sp := fun vs H Q E => ∃ ι S ds, Sim K ι S H ∧ RelDs K ι H ds vs ∧ PostD K ι H (fn ds S) Q E
structure FnM (P : Program) (w : World) (K : PySem.W.Frag) (mg : Str → Option Value) (base : Heap) (k : Nat) (f : Addr) (fn : Fn) : Prop where
  ex : ∃ fd ps, FnOk P w K mg base (L2.CX P w) k f fd ps (spM K fn) ∧ Binds K fd ps []
  kp : PySem.W.keepIn K (.ref f) = true
/-- where calls are made: what is raised, how much room -/
structure Cq (X : Cx) (W : WX) (k : Nat) : Prop where
  tk : Takes X W
  hr : Room k X.A
  po : PassesOwn (model X.prog X.w) X.A X.env X.xe
theorem rd1 {K : PySem.W.Frag} {ι : List Addr} {H : Hp} {n : Nat} {a : Addr} (h : ι[n]? = some a) : RelD K ι H (.ref n) (.ref a) := by
  unfold RelD; exact ⟨a, h, rfl⟩
theorem RelD.ref_of {K : PySem.W.Frag} {ι : List Addr} {H : Hp} {n : Nat} {v : V} (h : RelD K ι H (.ref n) v) : ∃ a, ι[n]? = some a ∧ v = .ref a := by
  unfold RelD at h; exact h
theorem RelF.get {K : PySem.W.Frag} {ι : List Addr} {H : Hp} {f : Str} : ∀ {fs : List (Str × D)} {vs : List (Str × V)} {d : D}, RelF K ι H fs vs → fs.lookup f = some d → ∃ v, vs.lookup f = some v ∧ RelD K ι H d v
  | [], _, _, _, e => by cases e
  | (g, d0) :: r, vs, d, h, e => by
    obtain ⟨v, r', rfl, h1, h2⟩ := h
    simp only [List.lookup_cons] at e ⊢
    cases q : (f == g) with
    | true => rw [q] at e; cases e; exact ⟨v, rfl, h1⟩
    | false => rw [q] at e; exact RelF.get h2 e
theorem RelF.none {K : PySem.W.Frag} {ι : List Addr} {H : Hp} {f : Str} : ∀ {fs : List (Str × D)} {vs : List (Str × V)}, RelF K ι H fs vs → fs.lookup f = none → vs.lookup f = none
  | [], _, h, e => by have h : _ = [] := h; subst h; rfl
  | (g, d0) :: r, vs, h, e => by
    obtain ⟨v, r', rfl, h1, h2⟩ := h
    simp only [List.lookup_cons] at e ⊢
    cases q : (f == g) with
    | true => rw [q] at e; cases e
    | false => rw [q] at e; exact RelF.none h2 e
/-! ### attributes -/
/-- a field of an own object of the class c -/
def mFld (c f : Str) (a : Sem) : Sem := fun ρ S => (a ρ S).bind fun x S => match x with
  | .ref n => (match S[n]? with
    | some (.ins c' fs) => if c' = c then (match fs.lookup f with
      | some d => .ok d S
      | none => .bad) else .bad
    | _ => .bad)
  | _ => .bad
/-- a getter of an own object, a method of it -/
def mMth (c m : Str) (fn : Fn) (o : Sem) (as : SemA) : Sem := fun ρ S => (o ρ S).bind fun x S => match x with
  | .ref n => (match S[n]? with
    | some (.ins c' fs) => if c' = c ∧ fs.lookup m = none then (as ρ S).bind fun ds S => fn (x :: ds) S else .bad
    | _ => .bad)
  | _ => .bad
def mProp (c f : Str) (fn : Fn) (o : Sem) : Sem := fun ρ S => (o ρ S).bind fun x S => match x with
  | .ref n => (match S[n]? with
    | some (.ins c' fs) => if c' = c then (match fn [x] S with
      | .ok d S' => .ok d S'
      | _ => .bad) else .bad
    | _ => .bad)
  | _ => .bad
/-- a new own object -/
def mNew (c : Str) (fn : Fn) (as : SemA) : Sem := fun ρ S => (as ρ S).bind fun ds S => (fn (.ref S.length :: ds) (S ++ [.ins c []])).bind fun x S' => match x with
  | .non => .ok (.ref S.length) S'
  | _ => .bad
section
variable {X : Cx} {xc : XcP} {W : WX} {k j : Nat} {f : Addr} {fn : Fn} {x m : Str} {p pos apos : Pos} {e o : Expr} {es : List Expr}
theorem me_call {fa : SemA} (c : Cq X W k) (F : FnM X.prog X.w X.K X.mg X.base j f fn) (hm : X.mg x = some (.ref f)) (ha : MA X xc W (e :: es) fa) (hj : j ≤ k := by decide) (hg : Gl X x := by rfl)
    (hdb : (x == ("__debug__" : Str)) = false := by decide) (he : starEach (e :: es) X.env = (false, eval e X.env) :: starEach es X.env := by rfl) (hpl : (backTo pos (starEach es X.env)).any (·.1) = false := by rfl) :
    ME X xc W (.Call (.Name x p) (e :: es) [] pos) (mApp fn fa) := by
  obtain ⟨fd, ps, G, hb⟩ := F.ex
  refine (pe_callS (E := WE W) G (c.hr.mono hj) hg hm F.kp hb (fun σ => passAt c.tk σ) ha hdb he hpl).weak fun σ H Q ⟨ι, ρ, S, re, s, h⟩ => ?_
  refine TA.sub (tMA_bind re s h) ?_
  rintro vs H2 ⟨ι2, d2, S4, p2, g2, re2, s2, rd2, q⟩
  exact ⟨ι2, S4, d2, s2, rd2, q⟩
theorem me_call0 (c : Cq X W k) (F : FnM X.prog X.w X.K X.mg X.base j f fn) (hm : X.mg x = some (.ref f)) (hj : j ≤ k := by decide) (hg : Gl X x := by rfl)
    (hdb : (x == ("__debug__" : Str)) = false := by decide) : ME X xc W (.Call (.Name x p) [] [] pos) (mApp fn aNil) := by
  obtain ⟨fd, ps, G, hb⟩ := F.ex
  refine ⟨fun pins s σ H Q I ⟨ι, ρ, S, re, si, h⟩ => ?_⟩
  refine wpAny_Call_Name_kw (ld_glob I hg hm ?_ hdb)
  have h : PostD X.K ι H (fn [] S) Q (WE W σ) := h
  exact PySem.W.callWith_K0 I.kIn F.kp (run_fnS (us := []) (vs := []) (E := WE W) G (c.hr.mono hj) hb (passAt c.tk σ) I .nil ⟨ι, S, [], si, rfl, h⟩)
theorem me_fld {c g : Str} {fa : Sem} (ha : ME X xc W e fa) (hc : Cls X.K (He.ga X.K c)) (hn : NoAttr X.K (He.ga X.K c) g) (hb : attributeBase e g X.env (eval e X.env) = eval e X.env := by rfl) : ME X xc W (.Attribute e g pos) (mFld c g fa) := by
  refine (pe_fld ha hb).weak fun σ H Q ⟨ι, ρ, S, re, s, h⟩ => ?_
  refine TE.sub (tM_bind re s h) ?_
  rintro v H1 ⟨ι1, d1, S1, p1, g1, re1, s1, rd, h1⟩
  split at h1
  · rename_i n
    obtain ⟨a, ha, rfl⟩ := rd.ref_of
    split at h1
    · rename_i c' fs hS
      split at h1
      · rename_i ec
        subst ec
        obtain ⟨dx, vs, hH, rf⟩ := s1.is ha hS
        split at h1
        · rename_i d hd
          obtain ⟨u, hu, ru⟩ := rf.get hd
          exact ⟨a, _, dx, vs, u, rfl, hH, hc, hn, hu, h1.give s1 ru⟩
        · exact h1.elim
      · exact h1.elim
    · exact h1.elim
  · exact h1.elim
theorem me_prop {c g : Str} {pa : Addr} {fa : Sem} (ha : ME X xc W e fa) (hc : Cls X.K (He.ga X.K c)) (hp : PropOf X.K (He.ga X.K c) g pa f) (F : FnM X.prog X.w X.K X.mg X.base j f fn) (cq : Cq X W k) (hj : j + 1 ≤ k := by decide)
    (hb : attributeBase e g X.env (eval e X.env) = eval e X.env := by rfl) : ME X xc W (.Attribute e g pos) (mProp c g fn fa) := by
  obtain ⟨fd, ps, G, hbi⟩ := F.ex
  refine (pe_prop ha hc hp G (cq.hr.mono hj) hbi .nil (passL (X := X.nox)) hb).weak fun σ H Q ⟨ι, ρ, S, re, s, h⟩ => ?_
  refine TE.sub (tM_bind re s h) ?_
  rintro v H1 ⟨ι1, d1, S1, p1, g1, re1, s1, rd, h1⟩
  split at h1
  · rename_i n
    obtain ⟨a, ha, rfl⟩ := rd.ref_of
    split at h1
    · rename_i c' fs hS
      split at h1
      · rename_i ec
        subst ec
        obtain ⟨dx, vs, hH, rf⟩ := s1.is ha hS
        refine ⟨a, dx, vs, rfl, hH, ι1, S1, [.ref n], s1, ⟨_, _, rfl, rd, rfl⟩, ?_⟩
        split at h1
        · rename_i d S' hq
          rw [hq]; exact h1
        · exact h1.elim
      · exact h1.elim
    · exact h1.elim
  · exact h1.elim
end
end Mx

namespace Mx
open PySem L2 PySem.Spec PyProof.Rows
def putA (f : Str) (d : D) : List (Str × D) → List (Str × D)
  | [] => [(f, d)]
  | (g, e) :: r => if g = f then (g, d) :: r else (g, e) :: putA f d r
theorem RelF.put {K : PySem.W.Frag} {ι : List Addr} {H : Hp} {f : Str} {d : D} {v : V} (hd : RelD K ι H d v) : ∀ {fs : List (Str × D)} {vs : List (Str × V)}, RelF K ι H fs vs → RelF K ι H (putA f d fs) (putF f v vs)
  | [], vs, h => by
    have h : vs = [] := h
    subst h
    exact ⟨v, [], rfl, hd, rfl⟩
  | (g, e) :: r, vs, h => by
    obtain ⟨u, r', rfl, h1, h2⟩ := h
    unfold putA putF
    by_cases q : g = f
    · rw [if_pos q, if_pos q]; exact ⟨v, r', rfl, hd, h2⟩
    · rw [if_neg q, if_neg q]; exact ⟨u, _, rfl, h1, RelF.put hd h2⟩
theorem RelF.len {K : PySem.W.Frag} {ι : List Addr} {H : Hp} : ∀ {fs : List (Str × D)} {vs : List (Str × V)}, RelF K ι H fs vs → fs.length = vs.length
  | [], vs, h => by have h : vs = [] := h; subst h; rfl
  | (g, e) :: r, vs, h => by obtain ⟨u, r', rfl, h1, h2⟩ := h; simp [RelF.len h2]
/-- o.f = e: the value first -/
def sFld (c f : Str) (o v : Sem) : Stm := fun ρ S => (v ρ S).thn ρ fun y S => (o ρ S).thn ρ fun x S => match x with
  | .ref n => (match S[n]? with
    | some (.ins c' fs) => if c' = c ∧ fs.length < 1000 then .nx ρ (S.set n (.ins c (putA f y fs))) else .bad
    | _ => .bad)
  | _ => .bad
section
variable {X : Cx} {xc : XcP} {W : WX} {k j : Nat} {f : Addr} {fn : Fn} {x m : Str} {p pos apos : Pos} {e o : Expr} {es : List Expr}
theorem ms_fld {c g : Str} {fo fv : Sem} {value : Expr} {pos' : Pos} (ho : ME X xc W o fo) (hv : ME X xc W value fv) (hc : Cls X.K (He.ga X.K c)) (hn : NoAttr X.K (He.ga X.K c) g) (hs : swapsWith value (some (.Attribute o g pos')) pos.line X.env = pure false := by rfl) :
    MS X xc W (.Assign [.Attribute o g pos'] value pos) (Mx.sFld c g fo fv) := by
  refine (ps_fld ho hv hs).weak fun D σ H ⟨ι, ρ, S, re, s, h⟩ => ?_
  refine TE.sub (tM_thn re s h) ?_
  rintro y H1 ⟨ι1, d1, S1, p1, g1, re1, s1, rd1', h1⟩
  refine TE.sub (tM_thn re1 s1 h1) ?_
  rintro v H2 ⟨ι2, d2, S2, p2, g2, re2, s2, rd, h2⟩
  split at h2
  · rename_i n
    obtain ⟨a, ha, rfl⟩ := rd.ref_of
    split at h2
    · rename_i c' fs hS
      split at h2
      · rename_i ec
        obtain ⟨ec, hl⟩ := ec
        subst ec
        obtain ⟨dx, vs, hH, rf⟩ := s2.is ha hS
        refine ⟨a, _, dx, vs, rfl, hH, hc, hn, by rw [← rf.len]; exact hl, ?_⟩
        have gp : Gr H2 (upd H2 a (.ins (He.ga X.K c') dx (putF g y vs))) := Gr.put hH fun z => z
        have sp : Sim X.K ι2 (S2.set n (.ins c' (putA g d1 fs))) (upd H2 a (.ins (He.ga X.K c') dx (putF g y vs))) :=
          s2.put ha hH (fun z => z) ⟨dx, _, upd_same, RelF.put (rd1'.mono p2 (g2.trans gp)) (rf.mono (List.prefix_refl _) gp)⟩
        exact h2 ι2 σ _ (List.prefix_refl _) gp sp (re2.mono (List.prefix_refl _) gp)
      · exact h2.elim
    · exact h2.elim
  · exact h2.elim
/-- a method of an own object -/
theorem me_meth {c : Str} {fo : Sem} {fa : SemA} {pl : PySem.Sem Bool} (cq : Cq X W k) (ho : ME X xc W o fo) (hc : Cls X.K (He.ga X.K c)) (hm : Meth X.K (He.ga X.K c) m f) (F : FnM X.prog X.w X.K X.mg X.base j f fn) (ha : MA X xc W (e :: es) fa) (hj : j ≤ k := by decide)
    (hst : starEach (e :: es) X.env = (false, eval e X.env) :: starEach es X.env := by rfl) (hpl : (backTo pos (starEach es X.env)).any (·.1) = false := by rfl)
    (ht : eval (.Call (.Attribute o m apos) (e :: es) [] pos) X.env = (eval o X.env >>= fun ov => standAt apos.atName >>= fun _ => holding [ov] (getMethod ov m pl) >>= fun q =>
      callWith pos q.1 q.2 (backTo pos (starEach (e :: es) X.env)) (backToKw pos (keywordEach [] X.env))) := by rfl) :
    ME X xc W (.Call (.Attribute o m apos) (e :: es) [] pos) (mMth c m fn fo fa) := by
  obtain ⟨fd, ps, G, hb⟩ := F.ex
  refine ⟨fun pins s0 σ H Q I ⟨ι, ρ, S, re, s, h⟩ => ?_⟩
  refine PySem.W.methodCall_KW (pl := pl) (thn (ho.run pins s0 σ H _ I (tM_bind re s h)) fun u s1 ⟨z, H1, I1, rx, hz⟩ => ?_) ht
  obtain ⟨ι1, d1, S1, p1, g1, re1, si1, rd, h1⟩ := hz
  split at h1
  · rename_i n
    obtain ⟨a, ha', rfl⟩ := rd.ref_of
    obtain rfl : u = Value.ref a := rx
    split at h1
    · rename_i c' fs hS
      split at h1
      · rename_i ec
        obtain ⟨ec, hl⟩ := ec
        subst ec
        obtain ⟨dx, vs, hH, rf⟩ := si1.is ha' hS
        refine getmeth_ok I1 hH hc hm (rf.none hl) ?_
        refine PySem.W.callWith_K (first := [.ref a]) (h₀ := X.base) I.ok.mod.kin hm.kp (thn (ha.run pos pins s1 σ H1 _ I1 (tMA_bind re1 si1 h1)) fun us s2 ⟨zs, H2, I2, r, q2⟩ => ⟨I2.kIn, ?_⟩) hst hpl
        obtain ⟨ι2, ds, S2, p2, g2, re2, si2, rds, h2⟩ := q2
        exact run_fnS (us := .ref a :: us) (vs := .ref a :: zs) (E := WE W) G (cq.hr.mono hj) hb (passAt cq.tk σ) I2 (.cons rfl r) ⟨ι2, S2, .ref n :: ds, si2, ⟨_, _, rfl, rd.mono p2 g2, rds⟩, h2⟩
      · exact h1.elim
    · exact h1.elim
  · exact h1.elim
theorem me_meth0 {c : Str} {fo : Sem} {pl : PySem.Sem Bool} (cq : Cq X W k) (ho : ME X xc W o fo) (hc : Cls X.K (He.ga X.K c)) (hm : Meth X.K (He.ga X.K c) m f) (F : FnM X.prog X.w X.K X.mg X.base j f fn) (hj : j ≤ k := by decide)
    (ht : eval (.Call (.Attribute o m apos) [] [] pos) X.env = (eval o X.env >>= fun ov => standAt apos.atName >>= fun _ => holding [ov] (getMethod ov m pl) >>= fun q =>
      callWith pos q.1 q.2 (backTo pos (starEach [] X.env)) (backToKw pos (keywordEach [] X.env))) := by rfl) :
    ME X xc W (.Call (.Attribute o m apos) [] [] pos) (mMth c m fn fo aNil) := by
  obtain ⟨fd, ps, G, hb⟩ := F.ex
  refine ⟨fun pins s0 σ H Q I ⟨ι, ρ, S, re, s, h⟩ => ?_⟩
  refine PySem.W.methodCall_KW (pl := pl) (thn (ho.run pins s0 σ H _ I (tM_bind re s h)) fun u s1 ⟨z, H1, I1, rx, hz⟩ => ?_) ht
  obtain ⟨ι1, d1, S1, p1, g1, re1, si1, rd, h1⟩ := hz
  split at h1
  · rename_i n
    obtain ⟨a, ha', rfl⟩ := rd.ref_of
    obtain rfl : u = Value.ref a := rx
    split at h1
    · rename_i c' fs hS
      split at h1
      · rename_i ec
        obtain ⟨ec, hl⟩ := ec
        subst ec
        obtain ⟨dx, vs, hH, rf⟩ := si1.is ha' hS
        refine getmeth_ok I1 hH hc hm (rf.none hl) ?_
        exact PySem.W.callWith_K0 (first := [.ref a]) I1.kIn hm.kp (run_fnS (us := [.ref a]) (vs := [.ref a]) (E := WE W) G (cq.hr.mono hj) hb (passAt cq.tk σ) I1 (.cons rfl .nil) ⟨ι1, S1, [.ref n], si1, ⟨_, _, rfl, rd, rfl⟩, h1⟩)
      · exact h1.elim
    · exact h1.elim
  · exact h1.elim
/-- an own class called -/
theorem makeS {C : Addr} {c : Str} {ι : List Addr} {S : Sto} {ds : List D} {pins : List (Addr × Obj)} {σ : L2.St} {H : Hp} {s : Shared} {Q : VK} {us : List Value} {vs : List V} (hC : C = He.ga X.K c) (M : Mk X.K C f) (F : FnM X.prog X.w X.K X.mg X.base j f fn) (cq : Cq X W k) (hj : j + 1 ≤ k)
    (I : Inv X pins σ H s) (r : Vals vs us) (si : Sim X.K ι S H) (rd : RelDs X.K ι H ds vs)
    (h : PostD X.K ι H ((fn (.ref S.length :: ds) (S ++ [.ins c []])).bind fun x S' => match x with
      | .non => .ok (.ref S.length) S'
      | _ => .bad) Q (WE W σ)) : wpAny (model X.prog X.w) X.A (call (.ref C) us) (EP X pins σ Q) X.xe s := by
  obtain ⟨fd, ps, G, hb⟩ := F.ex
  subst hC
  have hn0 : H s.heap.objs.size = none := I.hok.fresh (Nat.le_refl _)
  have hn1 : H (s.heap.objs.size + 1) = none := I.hok.fresh (Nat.le_succ _)
  have hne : s.heap.objs.size ≠ s.heap.objs.size + 1 := Nat.ne_of_lt (Nat.lt_succ_self _)
  have hn1' : (upd H s.heap.objs.size (.own (s.heap.objs.size + 1))) (s.heap.objs.size + 1) = none := by rw [upd_ne hne.symm]; exact hn1
  have I2 := Inv.made (C := He.ga X.K c) I
  have si2 : Sim X.K (ι ++ [s.heap.objs.size + 1]) (S ++ [.ins c []]) (upd (upd H s.heap.objs.size (.own (s.heap.objs.size + 1))) (s.heap.objs.size + 1) (.ins (He.ga X.K c) s.heap.objs.size [])) :=
    (si.new (p := s.heap.objs.size) (o := .own (s.heap.objs.size + 1)) hn0).push hn1' ⟨_, [], upd_same, rfl⟩
  have gr : Gr H (upd (upd H s.heap.objs.size (.own (s.heap.objs.size + 1))) (s.heap.objs.size + 1) (.ins (He.ga X.K c) s.heap.objs.size [])) := (Gr.new hn0).trans (Gr.new hn1')
  have hat : (ι ++ [s.heap.objs.size + 1])[S.length]? = some (s.heap.objs.size + 1) := by rw [← si.len, List.getElem?_append_right (Nat.le_refl _)]; simp
  have rself : RelD X.K (ι ++ [s.heap.objs.size + 1]) (upd (upd H s.heap.objs.size (.own (s.heap.objs.size + 1))) (s.heap.objs.size + 1) (.ins (He.ga X.K c) s.heap.objs.size [])) (.ref S.length) (.ref (s.heap.objs.size + 1)) := Mx.rd1 hat
  have hq : spM X.K fn (.ref (s.heap.objs.size + 1) :: vs) (upd (upd H s.heap.objs.size (.own (s.heap.objs.size + 1))) (s.heap.objs.size + 1) (.ins (He.ga X.K c) s.heap.objs.size [])) (fun v H2 => v = .non ∧ Q (.ref (s.heap.objs.size + 1)) H2) (WE W σ) := by
    refine ⟨_, _, .ref S.length :: ds, si2, ⟨_, _, rfl, rself, rd.mono (pre_snoc _ _) gr⟩, ?_⟩
    refine (post_bind (h.mono (pre_snoc _ _) gr)).imp ?_
    rintro v H1 ⟨ι1, d1, S1, p1, g1, s1, rd, h1⟩
    split at h1
    · have e : v = .non := by simpa [RelD] using rd
      exact ⟨e, h1.give s1 (rself.mono p1 g1)⟩
    · exact h1.elim
  have r2 : Vals (V.ref (s.heap.objs.size + 1) :: vs) (Value.ref (s.heap.objs.size + 1) :: us) := .cons rfl r
  have hl : (Value.ref (s.heap.objs.size + 1) :: us ++ []).length = ps.length := by
    rw [List.append_nil, ← r2.length, G.len _ _ _ _ hq]
  have hbs := hb _ (Value.ref (s.heap.objs.size + 1) :: us) I2.kIn hl
  rw [List.append_nil] at hbs
  refine wpAny_call (make_map (f := f) I.kIn M.makes M.init (beq_iff_eq.mp M.fn) (codeAny_mono (G.run _ X.stack _ _ ⟨Value.ref (s.heap.objs.size + 1) :: us, []⟩ _ _ _ (WE W σ) ((cq.hr.mono hj).make (He.ga X.K c) us []) (I2.env0.make (He.ga X.K c) us []) hbs r2 hq) fun r s' hq' => ?_))
  cases r with
  | error er => exact passAt cq.tk σ pins _ _ er s' I2 hq'
  | ok fl =>
    cases fl with
    | ret u =>
      obtain ⟨v, H', I3, rv, ev, q3⟩ := I2.after hq'
      subst ev
      exact ⟨rv, V.ref (s.heap.objs.size + 1), H', I3, rfl, q3⟩
    | next => exact False.elim hq'
    | brk => exact False.elim hq'
    | cont => exact False.elim hq'
theorem me_make {c : Str} {fa : SemA} (cq : Cq X W k) (M : Mk X.K (He.ga X.K x) f) (F : FnM X.prog X.w X.K X.mg X.base j f fn) (hm : X.mg x = some (.ref (He.ga X.K x))) (ha : MA X xc W (e :: es) fa) (hj : j + 1 ≤ k := by decide) (hg : Gl X x := by rfl)
    (hdb : (x == ("__debug__" : Str)) = false := by decide) (he : starEach (e :: es) X.env = (false, eval e X.env) :: starEach es X.env := by rfl) (hpl : (backTo pos (starEach es X.env)).any (·.1) = false := by rfl) :
    ME X xc W (.Call (.Name x p) (e :: es) [] pos) (mNew x fn fa) := by
  refine ⟨fun pins s σ H Q I ⟨ι, ρ, S, re, si, h⟩ => ?_⟩
  refine wpAny_Call_Name_kw (ld_glob I hg hm ?_ hdb)
  refine PySem.W.callWith_K (h₀ := X.base) I.ok.mod.kin M.kp (thn (ha.run pos pins s σ H _ I (tMA_bind re si h)) fun us s1 ⟨vs, H1, I1, r, q⟩ => ⟨I1.kIn, ?_⟩) he hpl
  obtain ⟨ι2, ds, S2, p2, g2, re2, si2, rds, h2⟩ := q
  exact makeS rfl M F cq hj I1 r si2 rds h2
end
end Mx

namespace Mx
open PySem L2 PySem.Spec PyProof.Rows
theorem RelDs.get {K : PySem.W.Frag} {ι : List Addr} {H : Hp} : ∀ {ds : List D} {vs : List V} {i : Nat} {d : D}, RelDs K ι H ds vs → ds[i]? = some d → ∃ v, vs[i]? = some v ∧ RelD K ι H d v
  | [], _, _, _, _, e => by simp at e
  | d0 :: ds, vs, i, d, h, e => by
    unfold RelDs at h
    obtain ⟨v, r, rfl, h1, h2⟩ := h
    cases i with
    | zero => simp at e; subst e; exact ⟨v, by simp, h1⟩
    | succ i =>
      obtain ⟨u, hu, ru⟩ := RelDs.get (i := i) h2 (by simpa using e)
      exact ⟨u, by simpa using hu, ru⟩
theorem relE_start {K : PySem.W.Frag} {ι : List Addr} {H : Hp} {ds : List D} {vs : List V} {N : List Str} (r : RelDs K ι H ds vs) : RelE K ι H none ⟨ds.map some ++ List.replicate (N.length - ds.length) none, none⟩ (L2.start N vs) := by
  refine ⟨?_, fun i d h => ?_, fun i e h => by cases h⟩
  · unfold L2.start; simp [r.length]
  · have h : (ds.map some ++ List.replicate (N.length - ds.length) none)[i]? = some (some d) := h
    by_cases hi : i < ds.length
    · rw [List.getElem?_append_left (by simpa using hi), List.getElem?_map] at h
      cases q : ds[i]? with
      | none => rw [q] at h; cases h
      | some d' =>
        rw [q] at h; cases h
        obtain ⟨v, hv, rv⟩ := r.get q
        refine ⟨v, ?_, rv⟩
        unfold L2.start
        rw [List.getElem?_append_left (by simpa [← r.length] using hi), List.getElem?_map, hv]
        rfl
    · rw [List.getElem?_append_right (by simpa using hi), List.getElem?_replicate] at h
      split at h <;> cases h
/-- where a def's body runs -/
abbrev cx1 (P : Program) (w : World) (K : PySem.W.Frag) (mg : Str → Option Value) (base : Heap) (N : List Str) (qual : Str) (scope : Scope) (f : Addr) (cd : Value) (A : Around) (outer : List PySem.Env) (s : Shared) (H : Hp) (E : XK) : Cx :=
  cxOf (L2.CX P w) P w K mg base N qual scope f cd A outer s H E
abbrev wE (E : XK) : WX := fun cls d _ H => E cls d H
section
variable {P : Program} {w : World} {K : PySem.W.Frag} {mg : Str → Option Value} {base : Heap} {x qual : Str} {params : Arguments} {body : List Stmt} {scope : Scope} {f : Addr} {fd : FuncData} {N ps : List Str} {k : Nat} {fb : Stm}
theorem body_weak {vs : List V} {H : Hp} {Q : VK} {E : XK} (hp : ps.length ≤ N.length) (h : spM K (mkFn ps.length N.length fb) vs H Q E) : tMS K none (wE E) fb { nx := fun _ H' => Q .non H', rt := Q } (L2.start N vs) H := by
  obtain ⟨ι, S, ds, s, r, h⟩ := h
  unfold mkFn at h
  by_cases hl : ds.length = ps.length
  · rw [if_pos hl, ← hl] at h
    refine ⟨ι, _, S, relE_start r, s, ?_⟩
    split at h
    · rename_i q
      rw [q]; exact fun j σ' H' p g s' re => h j .non H' p g s' (by simp [RelD])
    · rename_i q
      rw [q]; exact fun j v H' p g s' re => h j v H' p g s' re
    · rename_i q
      rw [q]; exact fun j σ' dd H' p g s' re rx => h j dd H' p g s' rx
    · exact h.elim
  · rw [if_neg hl] at h; exact h.elim
theorem spM_len {n m : Nat} {vs : List V} {H : Hp} {Q : VK} {E : XK} (h : spM K (mkFn n m fb) vs H Q E) : vs.length = n := by
  obtain ⟨ι, S, ds, s, r, h⟩ := h
  unfold mkFn at h
  by_cases hl : ds.length = n
  · rw [← r.length]; exact hl
  · rw [if_neg hl] at h; exact h.elim
/-- THE RULE: a def of the text is its machine function -/
theorem ok_fn (F : FunD K x qual params body scope [] [] f fd) (S : FnScope N ps scope)
    (hb : ∀ (kV doc pm : Value) (an : Option Addr) (cdv ct : Value) (us : List Value), us.length = ps.length → bindArgs (PySem.W.fnOf x qual params body scope .none kV doc pm an cdv ct) ⟨us, []⟩ = pure (ps.zip us))
    (hbody : ∀ (cdv : Value) (A : Around) (outer : List PySem.Env) (s : Shared) (H : Hp) (E : XK), Cq (cx1 P w K mg base N qual scope f cdv A outer s H E) (wE E) k → MSs (cx1 P w K mg base N qual scope f cdv A outer s H E) none (wE E) body fb) :
    FnM P w K mg base (k + 1) f (mkFn ps.length N.length fb) := by
  have hp : ps.length ≤ N.length := by
    have e := congrArg List.length S.pre
    rw [List.length_take] at e
    omega
  refine ⟨⟨fd, ps, F.ok S (fun vs H Q E h => spM_len h) fun cdv A outer s H vs Q E hr hsp => ⟨_, hbody cdv A outer s H E ⟨takes_of rfl rfl rfl rfl, hr, passes_of rfl⟩, body_weak hp hsp⟩, F.bindsN hb⟩, F.kp⟩
end
end Mx

namespace Mx
open PySem L2 PySem.Spec PyProof.Rows
/-- what is walked: how many turns, the item of a turn (read when the turn comes), what must hold at the end -/
structure Itr where
  n : Nat
  item : Nat → Sto → Option D
  stop : Sto → Bool
abbrev SemI := Env → Sto → R Itr
abbrev Tgt := D → Env → Option Env
def gN (i : Nat) : Tgt := fun d ρ => some (ρ.set i d)
def gsNil : List D → Env → Option Env := fun ds ρ => match ds with
  | [] => some ρ
  | _ => none
def gsCons (t : Tgt) (u : List D → Env → Option Env) : List D → Env → Option Env := fun ds ρ => match ds with
  | d :: r => (t d ρ).bind (u r)
  | _ => none
def gT (n : Nat) (u : List D → Env → Option Env) : Tgt := fun d ρ => match d with
  | .tup ds => if ds.length = n then u ds ρ else none
  | _ => none
/-- a for: m turns are left, i the next -/
def loop (I : Itr) (t : Tgt) (b : Stm) : Nat → Nat → Env → Sto → RS
  | 0, _, ρ, S => if I.stop S then .nx ρ S else .bad
  | m + 1, i, ρ, S => match I.item i S with
    | some d => (match t d ρ with
      | some ρ' => (b ρ' S).bind fun ρ'' S' => loop I t b m (i + 1) ρ'' S'
      | none => .bad)
    | none => .bad
def sFor (it : SemI) (t : Tgt) (b : Stm) : Stm := fun ρ S => (it ρ S).thn ρ fun I S => loop I t b I.n 0 ρ S
def itL (a : Sem) : SemI := fun ρ S => (a ρ S).bind fun x S => match x with
  | .ref n => (match S[n]? with
    | some (.lst ds) => .ok ⟨ds.length, fun i S => match S[n]? with
      | some (.lst es) => es[i]?
      | _ => none, fun S => match S[n]? with
      | some (.lst es) => decide (es.length ≤ ds.length)
      | _ => false⟩ S
    | _ => .bad)
  | _ => .bad
def itT (a : Sem) : SemI := fun ρ S => (a ρ S).bind fun x S => match x with
  | .tup ds => .ok ⟨ds.length, fun i _ => ds[i]?, fun _ => true⟩ S
  | _ => .bad
def rngI (lo hi : Int) : Itr := ⟨(hi - lo).toNat, fun i _ => some (.int (lo + i)), fun _ => true⟩
def itR1 (a : Sem) : SemI := fun ρ S => (a ρ S).bind fun x S => match x with
  | .int j => if -(2 ^ 62) ≤ j ∧ j < 2 ^ 62 then .ok (rngI 0 j) S else .bad
  | _ => .bad
def itR2 (a b : Sem) : SemI := fun ρ S => (a ρ S).bind fun x S => (b ρ S).bind fun y S => match x, y with
  | .int i, .int j => if -(2 ^ 62) ≤ i ∧ i < 2 ^ 62 ∧ -(2 ^ 62) ≤ j ∧ j < 2 ^ 62 then .ok (rngI i j) S else .bad
  | _, _ => .bad

/-- the walk of the hand layer is this walk -/
def WalkM (K : PySem.W.Frag) (ι : List Addr) (H : Hp) (I : Itr) (J : It) : Prop := ∀ ι' S' H', ι <+: ι' → Gr H H' → Sim K ι' S' H' →
  (∀ i d, i < I.n → I.item i S' = some d → J.go i H' ∧ ∀ x H2, J.yld i H' x H2 → Gr H' H2 ∧ Sim K ι' S' H2 ∧ RelD K ι' H2 d x) ∧ (I.stop S' = true → J.stop I.n H')
theorem WalkM.mono {K : PySem.W.Frag} {ι ι' : List Addr} {H H' : Hp} {I : Itr} {J : It} (h : WalkM K ι H I J) (p : ι <+: ι') (g : Gr H H') : WalkM K ι' H' I J := fun a b c q r s => h a b c (p.trans q) (g.trans r) s
def tMI (K : PySem.W.Frag) (xc : XcP) (W : WX) (it : SemI) : TI := fun σ H R => ∃ ι ρ S, RelE K ι H xc ρ σ ∧ Sim K ι S H ∧ Post K (WalkM K) ι H (it ρ S) R (WE W σ)
theorem _root_.L2.PI.weak {X : Cx} {tg e : Expr} {t t' : TI} (h : PI X tg e t) (w : ∀ σ H R, t' σ H R → t σ H R) : PI X tg e t' := ⟨fun pins s σ H R I hw => h.run pins s σ H R I (w _ _ _ hw)⟩
theorem _root_.L2.PG.weak {X : Cx} {tg : Expr} {t t' : TG} (h : PG X tg t) (w : ∀ v σ H Q, t' v σ H Q → t v σ H Q) : PG X tg t' := ⟨fun pins s σ H v u Q I r hw => h.run pins s σ H v u Q I r (w _ _ _ _ hw)⟩
theorem _root_.L2.PGs.weak {X : Cx} {tg : List Expr} {t t' : TGs} (h : PGs X tg t) (w : ∀ v σ H Q, t' v σ H Q → t v σ H Q) : PGs X tg t' := ⟨fun pins s σ H v u Q I r hw => h.run pins s σ H v u Q I r (w _ _ _ _ hw)⟩
abbrev MI (X : Cx) (xc : XcP) (W : WX) (tg e : Expr) (it : SemI) : Prop := PI X tg e (tMI X.K xc W it)
/-- a target of a for, of an assignment; sl: the slots that it sets -/
def Swept (sl : List Nat) (σ σ' : L2.St) : Prop := ∀ vs : List Nat, (∀ i ∈ sl, i ∈ vs) → wipe σ' vs = wipe σ vs
def tMG (K : PySem.W.Frag) (xc : XcP) (t : Tgt) (sl : List Nat) : TG := fun v σ H Q => ∃ ι ρ S d, RelE K ι H xc ρ σ ∧ Sim K ι S H ∧ RelD K ι H d v ∧ ∃ ρ', t d ρ = some ρ' ∧ ∀ σ', RelE K ι H xc ρ' σ' → Swept sl σ σ' → Q σ' H
def tMGs (K : PySem.W.Frag) (xc : XcP) (t : List D → Env → Option Env) (sl : List Nat) : TGs := fun v σ H Q => ∃ ι ρ S d, RelE K ι H xc ρ σ ∧ Sim K ι S H ∧ RelDs K ι H d v ∧ ∃ ρ', t d ρ = some ρ' ∧ ∀ σ', RelE K ι H xc ρ' σ' → Swept sl σ σ' → Q σ' H
abbrev MG (X : Cx) (xc : XcP) (tg : Expr) (t : Tgt) (sl : List Nat) : Prop := PG X tg (tMG X.K xc t sl)
abbrev MGs (X : Cx) (xc : XcP) (tg : List Expr) (t : List D → Env → Option Env) (sl : List Nat) : Prop := PGs X tg (tMGs X.K xc t sl)
theorem wipe_get (σ : L2.St) (vs : List Nat) (i : Nat) : (wipe σ vs)[i]? = if i ∈ vs ∧ i < σ.length then some none else σ[i]? := by
  induction vs with
  | nil => simp [wipe]
  | cons v vs ih =>
    unfold wipe
    by_cases h : v = i
    · subst h
      by_cases hl : v < σ.length
      · rw [List.getElem?_set_self (by rw [wipe_length]; exact hl), if_pos ⟨List.mem_cons_self, hl⟩]
      · rw [List.getElem?_eq_none (by rw [List.length_set, wipe_length]; omega), if_neg (fun z => hl z.2), List.getElem?_eq_none (by omega)]
    · rw [List.getElem?_set_ne h, ih]
      have e : (i ∈ v :: vs) ↔ i ∈ vs := by
        rw [List.mem_cons]
        exact ⟨fun z => z.elim (fun y => absurd y.symm h) id, Or.inr⟩
      simp only [e]
theorem Swept.refl (σ : L2.St) : Swept [] σ σ := fun _ _ => rfl
theorem Swept.set (σ : L2.St) (i : Nat) (x : Option V) : Swept [i] σ (σ.set i x) := fun vs h => by
  have hi := h i (by simp)
  apply List.ext_getElem?
  intro j
  rw [wipe_get, wipe_get, List.length_set]
  by_cases q : j ∈ vs ∧ j < σ.length
  · rw [if_pos q, if_pos q]
  · rw [if_neg q, if_neg q]
    by_cases e : i = j
    · subst e
      have : ¬ i < σ.length := fun z => q ⟨hi, z⟩
      rw [List.getElem?_eq_none (by simp; omega), List.getElem?_eq_none (by omega)]
    · rw [List.getElem?_set_ne e]
theorem Swept.trans {s t : List Nat} {σ σ1 σ2 : L2.St} (a : Swept s σ σ1) (b : Swept t σ1 σ2) : Swept (s ++ t) σ σ2 := fun vs h =>
  (b vs fun i hi => h i (List.mem_append_right _ hi)).trans (a vs fun i hi => h i (List.mem_append_left _ hi))
section
variable {X : Cx} {xc : XcP} {W : WX} {k : Nat} {pos : Pos}
theorem mg_n {i : Nat} {x : Str} (hN : X.N.Nodup) (hi : X.N[i]? = some x := by rfl) (hx : Loc X.env.scope x := by first | exact Or.inl rfl | exact Or.inr rfl) (hf : X.fn x = true ∨ X.env.scope.names.lookup x = some .local := by first | exact .inl rfl | exact .inr rfl | assumption) : MG X xc (.Name x pos) (gN i) [i] :=
  (pg_name hN hi hx hf).weak fun v σ H Q ⟨ι, ρ, S, d, re, s, rd, ρ', e, q⟩ => by
    cases e
    exact q _ (re.set rd) (Swept.set _ _ _)
theorem mgs_nil : MGs X xc [] gsNil [] := pgs_nil.weak fun v σ H Q ⟨ι, ρ, S, ds, re, s, rd, ρ', e, q⟩ => by
  cases ds with
  | nil =>
    have h : v = [] := rd
    cases e
    exact ⟨h, q _ re (Swept.refl _)⟩
  | cons d ds => cases e
theorem mgs_cons {e : Expr} {es : List Expr} {t : Tgt} {u : List D → Env → Option Env} {s1 s2 : List Nat} (h1 : MG X xc e t s1) (h2 : MGs X xc es u s2)
    (hs : (assignEach (e :: es) X.env).map (·.2) = assign e X.env :: (assignEach es X.env).map (·.2) := by rfl) : MGs X xc (e :: es) (gsCons t u) (s1 ++ s2) := by
  refine (pgs_cons h1 h2 hs).weak fun v σ H Q ⟨ι, ρ, S, ds, re, s, rd, ρ', e, q⟩ => ?_
  cases ds with
  | nil => cases e
  | cons d ds =>
    obtain ⟨v, r, rfl, r1, r2⟩ := rd
    have e : (t d ρ).bind (u ds) = some ρ' := e
    cases z : t d ρ with
    | none => rw [z] at e; cases e
    | some ρ1 =>
      rw [z] at e
      refine ⟨v, r, rfl, ι, ρ, S, d, re, s, r1, ρ1, z, fun σ1 re1 w1 => ?_⟩
      exact ⟨ι, ρ1, S, ds, re1, s, r2, ρ', e, fun σ2 re2 w2 => q σ2 re2 (w1.trans w2)⟩
theorem mg_t {es : List Expr} {kk n : Nat} {u : List D → Env → Option Env} {sl : List Nat} (hc : X.calm = true) (h : MGs X xc es u sl) (hn : (assignEach es X.env).length = n := by rfl) (hst : (assignEach es X.env).findIdx? (·.1) = none := by rfl) : MG X xc (.Tuple es kk pos) (gT n u) sl := by
  refine (pg_tup hc h hn hst).weak fun v σ H Q ⟨ι, ρ, S, d, re, s, rd, ρ', e, q⟩ => ?_
  unfold gT at e
  split at e
  · rename_i ds
    split at e
    · rename_i hl
      unfold RelD at rd
      obtain ⟨a, vs, rfl, hs, rds⟩ := rd
      exact ⟨a, vs, rfl, hs, by rw [← rds.length]; exact hl, ι, ρ, S, ds, re, s, rds, ρ', e, q⟩
    · cases e
  · cases e
/-- target = e -/
def sAsg (t : Tgt) (a : Sem) : Stm := fun ρ S => (a ρ S).thn ρ fun d S => match t d ρ with
  | some ρ' => .nx ρ' S
  | none => .bad
theorem ms_asg {tg e : Expr} {t : Tgt} {f : Sem} (he : ME X xc W e f) {sl : List Nat} (hg : MG X xc tg t sl) (hs : swapsWithSole [tg] e pos.line X.env = pure false := by rfl) (hw : swappedStores [tg] e X.env = pure none := by rfl) (h1 : (assignEach [tg] X.env).map (·.2) = [assign tg X.env] := by rfl) : MS X xc W (.Assign [tg] e pos) (Mx.sAsg t f) := by
  refine (ps_asg he hg hs hw h1).weak fun D σ H ⟨ι, ρ, S, r, s, h⟩ => ?_
  refine TE.sub (tM_thn r s h) ?_
  rintro v H1 ⟨ι1, d1, S2, p1, g1, re1, s1, rd1, h1⟩
  split at h1
  · rename_i ρ' hq
    exact ⟨ι1, ρ, S2, d1, re1, s1, rd1, ρ', hq, fun σ' re' _ => h1.give s1 re'⟩
  · exact h1.elim
/-! ### loops -/
theorem loop_weak {I : Itr} {J : It} {t : Tgt} {fb : Stm} {D : Ends} {sl : List Nat}
    {ι0 : List Addr} {H0 : Hp} (wk : WalkM X.K ι0 H0 I J) {ρ : Env} {S : Sto} {σ : L2.St} (re : RelE X.K ι0 H0 xc ρ σ) (s : Sim X.K ι0 S H0) (h : PostS X.K xc W ι0 H0 (loop I t fb I.n 0 ρ S) D) :
    ∃ Wn : Nat → Nat → L2.St → Hp → Prop, (∃ m, Wn 0 m σ H0) ∧ ∀ i m σ H, Wn i m σ H → (J.stop i H ∧ D.nx σ H) ∨ (J.go i H ∧ ∃ N : L2.St → Hp → Prop, (∀ σ' H', N σ' H' → ∃ m', m' < m ∧ Wn (i + 1) m' σ' H') ∧
      ∀ x H', J.yld i H x H' → tMG X.K xc t sl x σ H' fun σ2 H2 => tMS X.K xc W fb { D with nx := N, ct := N, bk := D.nx } σ2 H2) := by
  refine ⟨fun i m σ H => i + m = I.n ∧ ∃ ι ρ S, ι0 <+: ι ∧ Gr H0 H ∧ RelE X.K ι H xc ρ σ ∧ Sim X.K ι S H ∧ PostS X.K xc W ι H (loop I t fb m i ρ S) D, ⟨I.n, by simp, ι0, ρ, S, List.prefix_refl _, Gr.refl _, re, s, h⟩, ?_⟩
  rintro i m σ H ⟨hm, ι, ρ, S, p, gr, re, s, h⟩
  obtain ⟨w1, w2⟩ := wk ι S H p gr s
  cases m with
  | zero =>
    have hi : i = I.n := by omega
    subst hi
    unfold loop at h
    split at h
    · rename_i hst
      exact .inl ⟨w2 hst, h.give s re⟩
    · exact h.elim
  | succ m =>
    unfold loop at h
    split at h
    · rename_i d hd
      obtain ⟨z1, z2⟩ := w1 i d (by omega) hd
      refine .inr ⟨z1, fun σ' H' => ∃ ι' ρ' S', ι0 <+: ι' ∧ Gr H0 H' ∧ RelE X.K ι' H' xc ρ' σ' ∧ Sim X.K ι' S' H' ∧ PostS X.K xc W ι' H' (loop I t fb m (i + 1) ρ' S') D, fun σ' H' q => ⟨m, Nat.lt_succ_self m, by omega, q⟩, fun x H2 hy => ?_⟩
      obtain ⟨g2, s2, rd2⟩ := z2 x H2 hy
      split at h
      · rename_i ρ1 hρ
        refine ⟨ι, ρ, S, d, re.mono (List.prefix_refl _) g2, s2, rd2, ρ1, hρ, fun σ1 re1 _ => ?_⟩
        refine ⟨ι, ρ1, S, re1, s2, ?_⟩
        have h := PostS.mono (List.prefix_refl ι) g2 h
        cases q : fb ρ1 S with
        | nx ρ2 S2 => rw [q] at h; exact fun j σ3 H3 p3 g3 s3 re3 => ⟨j, ρ2, S2, p.trans p3, (gr.trans g2).trans g3, re3, s3, h.mono p3 g3⟩
        | rt d S' => rw [q] at h; exact h
        | exc e d S' => rw [q] at h; exact h
        | bad => rw [q] at h; exact h
      · exact h.elim
    · exact h.elim
theorem ms_for {tg iter : Expr} {body : List Stmt} {it : SemI} {t : Tgt} {fb : Stm} (cq : Cq X W k) {sl : List Nat} (hi : MI X xc W tg iter it) (hg : MG X xc tg t sl) (hb : MSs X xc W body fb) (hc : X.calm = true := by rfl)
    (hs : ∀ x, foldedSetIterable iter X.env x = pure x := by intro _; rfl) : MS X xc W (.For tg iter body [] pos) (sFor it t fb) := by
  refine (ps_for cq.po hc hi hg hb hs).weak fun D σ H ⟨ι, ρ, S, r, s, h⟩ => ⟨ι, ρ, S, r, s, ?_⟩
  cases q : it ρ S with
  | ok I S1 =>
    have h : PostS X.K xc W ι H ((it ρ S).thn ρ fun I S => loop I t fb I.n 0 ρ S) D := h
    rw [q] at h
    exact fun j J H1 p g s1 wk => loop_weak wk (r.mono p g) s1 (h.mono p g)
  | exc e S1 =>
    have h : PostS X.K xc W ι H ((it ρ S).thn ρ fun I S => loop I t fb I.n 0 ρ S) D := h
    rw [q] at h
    exact fun j dd H1 p g s1 rx => h j σ dd H1 p g s1 (r.mono p g) rx
  | bad =>
    have h : PostS X.K xc W ι H ((it ρ S).thn ρ fun I S => loop I t fb I.n 0 ρ S) D := h
    rw [q] at h
    exact h
/-! ### what is walked -/
theorem walkT {K : PySem.W.Frag} {ι : List Addr} {H : Hp} {a : Addr} {vs : List V} {ds : List D} (h : SqT K H a vs) (r : RelDs K ι H ds vs) : WalkM K ι H ⟨ds.length, fun i _ => ds[i]?, fun _ => true⟩ (Itt K a) := fun ι' S' H' p g s => by
  have h' := SqT.grow g h
  have r' := RelDs.mono p g r
  refine ⟨fun i d hi e => ?_, fun _ => ⟨vs, h', by rw [← r.length]; exact Nat.le_refl _⟩⟩
  obtain ⟨v, hv, rv⟩ := r'.get e
  refine ⟨⟨vs, v, h', hv⟩, fun x H2 hy => ?_⟩
  obtain ⟨e1, e2⟩ := hy
  subst e1
  have q := e2 vs h'
  rw [hv] at q; cases q
  exact ⟨Gr.refl _, s, rv⟩
theorem mi_t {tg e : Expr} {f : Sem} (h : ME X xc W e f) : MI X xc W tg e (itT f) := by
  refine (pi_tup h).weak fun σ H R ⟨ι, ρ, S, r, s, q⟩ => ?_
  refine TE.sub (tM_bind r s q) ?_
  rintro v H1 ⟨ι1, d1, S1, p1, g1, re1, s1, rd, h1⟩
  split at h1
  · rename_i ds
    unfold RelD at rd
    obtain ⟨a, vs, rfl, hs, rds⟩ := rd
    exact ⟨a, rfl, ⟨vs, hs⟩, h1.give s1 (walkT hs rds)⟩
  · exact h1.elim
theorem walkL {K : PySem.W.Frag} {ι : List Addr} {H : Hp} {a : Addr} {n : Nat} {ds : List D} (hn : ι[n]? = some a) : WalkM K ι H ⟨ds.length, fun i S => match S[n]? with
      | some (.lst es) => es[i]?
      | _ => none, fun S => match S[n]? with
      | some (.lst es) => decide (es.length ≤ ds.length)
      | _ => false⟩ (Itl K a) := fun ι' S' H' p g s => by
  have hn' := pre_get p hn
  refine ⟨fun i d hi e => ?_, fun e => ?_⟩
  · have e : (match S'[n]? with
      | some (.lst es) => es[i]?
      | _ => none) = some d := e
    split at e
    · rename_i es hS
      obtain ⟨vs, hH, r⟩ := s.is hn' hS
      obtain ⟨v, hv, rv⟩ := r.get e
      refine ⟨⟨vs, v, SqL.of hH, hv⟩, fun x H2 hy => ?_⟩
      obtain ⟨e1, e2⟩ := hy
      subst e1
      have q := e2 vs (SqL.of hH)
      rw [hv] at q; cases q
      exact ⟨Gr.refl _, s, rv⟩
    · cases e
  · have e : (match S'[n]? with
      | some (.lst es) => decide (es.length ≤ ds.length)
      | _ => false) = true := e
    split at e
    · rename_i es hS
      obtain ⟨vs, hH, r⟩ := s.is hn' hS
      exact ⟨vs, SqL.of hH, by rw [← r.length]; exact of_decide_eq_true e⟩
    · cases e
theorem mi_l {tg e : Expr} {f : Sem} (h : ME X xc W e f) : MI X xc W tg e (itL f) := by
  refine (pi_list h).weak fun σ H R ⟨ι, ρ, S, r, s, q⟩ => ?_
  refine TE.sub (tM_bind r s q) ?_
  rintro v H1 ⟨ι1, d1, S1, p1, g1, re1, s1, rd, h1⟩
  split at h1
  · rename_i n
    obtain ⟨a, ha, rfl⟩ := rd.ref_of
    split at h1
    · rename_i ds hS
      obtain ⟨vs, hH, rds⟩ := s1.is ha hS
      exact ⟨a, rfl, ⟨vs, SqL.of hH⟩, h1.give s1 (walkL ha)⟩
    · exact h1.elim
  · exact h1.elim
theorem walkR {K : PySem.W.Frag} {ι : List Addr} {H : Hp} {lo : Int} {n : Nat} : WalkM K ι H ⟨n, fun i _ => some (.int (lo + i)), fun _ => true⟩ (L2.Itr lo n) := fun ι' S' H' p g s => by
  refine ⟨fun i d hi e => ?_, fun _ => Nat.le_refl _⟩
  cases e
  refine ⟨hi, fun x H2 hy => ?_⟩
  obtain ⟨e1, e2⟩ := hy
  subst e1 e2
  exact ⟨Gr.refl _, s, by simp [RelD]⟩
theorem mi_r1 {tg a : Expr} {f : Sem} {p : Pos} (ha : ME X xc W a f) (hm : X.mg "range" = none) (hg : Gl X "range" := by rfl) (hs : starEach [a] X.env = [(false, eval a X.env)] := by rfl) : MI X xc W tg (.Call (.Name "range" p) [a] [] pos) (itR1 f) := by
  refine (pi_range1 hg hm (pa_cons ha pa_nil (by rw [hs]; rfl)) hs).weak fun σ H R ⟨ι, ρ, S, r, s, q⟩ => ?_
  refine TE.sub (tM_bind r s q) ?_
  rintro v H1 ⟨ι1, d1, S1, p1, g1, re1, s1, rd, h1⟩
  split at h1
  · rename_i j
    have e : v = .int j := by simpa [RelD] using rd
    subst e
    split at h1
    · rename_i hj
      refine ⟨j, rfl, hj.1, hj.2, ?_⟩
      have w := h1.give (v := L2.Itr 0 (j - 0).toNat) s1 walkR
      rw [Int.sub_zero] at w
      exact w
    · exact h1.elim
  · exact h1.elim
end
end Mx

namespace Mx
open PySem L2 PySem.Spec PyProof.Rows
def R.nox {α : Type} (r : R α) : R α := match r with
  | .ok a S => .ok a S
  | _ => .bad
def wipeL (ρ : List (Option D)) : List Nat → List (Option D)
  | [] => ρ
  | v :: vs => (wipeL ρ vs).set v none
def Env.wipe (ρ : Env) (vs : List Nat) : Env := ⟨wipeL ρ.sl vs, none⟩
/-- a list comprehension's turns: n the new list's place, m turns left, i the next -/
def compLoop (I : Itr) (t : Tgt) (tt : SemT) (te : Sem) (vs : List Nat) (n : Nat) : Nat → Nat → Env → Sto → R D
  | 0, _, _, S => if I.stop S then .ok (.ref n) S else .bad
  | m + 1, i, ρ, S => match I.item i S with
    | some d => (match t d (ρ.wipe vs) with
      | some ρ' => (tt ρ' S).nox.bind fun c S => if c then ((te ρ' S).nox.bind fun y S => match S[n]? with
        | some (.lst acc) => if acc.length < sizeLine then compLoop I t tt te vs n m (i + 1) ρ (S.set n (.lst (acc ++ [y]))) else .bad
        | _ => .bad) else compLoop I t tt te vs n m (i + 1) ρ S
      | none => .bad)
    | none => .bad
def tYes : SemT := fun _ S => .ok true S
def mComp (it : SemI) (t : Tgt) (tt : SemT) (te : Sem) (vs : List Nat) : Sem := fun ρ S => (it ρ S).bind fun I S => compLoop I t tt te vs S.length I.n 0 ρ (S ++ [.lst []])

theorem wipeL_len (ρ : List (Option D)) : ∀ vs, (wipeL ρ vs).length = ρ.length
  | [] => rfl
  | v :: vs => by unfold wipeL; rw [List.length_set, wipeL_len ρ vs]
theorem RelE.wipe {K : PySem.W.Frag} {ι : List Addr} {H : Hp} {xc : XcP} {ρ : Env} {σ : L2.St} (r : RelE K ι H xc ρ σ) (vs : List Nat) : RelE K ι H xc (ρ.wipe vs) (L2.wipe σ vs) := by
  refine ⟨by show (wipeL ρ.sl vs).length = _; rw [wipeL_len, wipe_length, r.len], fun i d h => ?_, fun i e h => by cases h⟩
  have h : (wipeL ρ.sl vs)[i]? = some (some d) := h
  have key : ∀ vs : List Nat, (wipeL ρ.sl vs)[i]? = some (some d) → i ∉ vs ∧ ρ.sl[i]? = some (some d) := fun vs => by
    induction vs with
    | nil => exact fun h => ⟨by simp, h⟩
    | cons v vs ih =>
      intro h
      unfold wipeL at h
      by_cases e : v = i
      · subst e
        by_cases hl : v < (wipeL ρ.sl vs).length
        · rw [List.getElem?_set_self hl] at h; cases h
        · rw [List.getElem?_eq_none (by rw [List.length_set]; omega)] at h; cases h
      · rw [List.getElem?_set_ne e] at h
        obtain ⟨h1, h2⟩ := ih h
        exact ⟨by simp [h1, Ne.symm e], h2⟩
  obtain ⟨h1, h2⟩ := key vs h
  obtain ⟨v, hv, rv⟩ := r.sl i d h2
  exact ⟨v, by rw [wipe_get, if_neg (fun z => h1 z.1)]; exact hv, rv⟩
abbrev W0 : WX := fun _ _ _ _ => False
abbrev MTs (X : Cx) (xc : XcP) (W : WX) (es : List Expr) (f : SemT) : Prop := PTs X es (tMT X.K xc W f)
theorem _root_.L2.PTs.weak {X : Cx} {e : List Expr} {t t' : TT} (h : PTs X e t) (w : ∀ σ H Q, t' σ H Q → t σ H Q) : PTs X e t' := ⟨fun pins s σ H Q I hw => h.run pins s σ H Q I (w _ _ _ hw)⟩
theorem RelDs.append {K : PySem.W.Frag} {ι : List Addr} {H : Hp} : ∀ {ds es : List D} {vs ws : List V}, RelDs K ι H ds vs → RelDs K ι H es ws → RelDs K ι H (ds ++ es) (vs ++ ws)
  | [], es, vs, ws, h, h' => by
    have h : vs = [] := h
    subst h
    exact h'
  | d :: ds, es, vs, ws, h, h' => by
    obtain ⟨v, r, rfl, h1, h2⟩ := h
    exact ⟨v, r ++ ws, rfl, h1, RelDs.append h2 h'⟩
theorem RelDs.snoc {K : PySem.W.Frag} {ι : List Addr} {H : Hp} {ds : List D} {vs : List V} {d : D} {v : V} (h : RelDs K ι H ds vs) (h' : RelD K ι H d v) : RelDs K ι H (ds ++ [d]) (vs ++ [v]) :=
  h.append ⟨v, [], rfl, h', rfl⟩
section
variable {X : Cx} {xc : XcP} {W : WX} {k : Nat} {pos : Pos}
theorem mts_nil : MTs X xc W [] Mx.tYes := pts_nil.weak fun σ H Q ⟨ι, ρ, S, r, s, h⟩ => h.give s rfl
theorem mts_one {e : Expr} {f : SemT} (h : MT X xc W e f) : MTs X xc W [e] f := pts_one h
theorem nox_bind {K : PySem.W.Frag} {ι : List Addr} {H : Hp} {α α' β β' : Type} {Rel : List Addr → Hp → α → β → Prop} {Rel' : List Addr → Hp → α' → β' → Prop} {r : R α} {g : α → Sto → R α'} {Q : β' → Hp → Prop} {E : XK} {E' : XK}
    (h : Post K Rel' ι H (r.nox.bind g) Q E) : Post K Rel ι H r (fun v H1 => ∃ ι1 d S1, ι <+: ι1 ∧ Gr H H1 ∧ Sim K ι1 S1 H1 ∧ Rel ι1 H1 d v ∧ Post K Rel' ι1 H1 (g d S1) Q E) E' := by
  cases r with
  | ok d S' => exact fun j v Hx q gx s r => ⟨j, d, S', q, gx, s, r, Post.mono q gx h⟩
  | exc e S' => exact h.elim
  | bad => exact h.elim
theorem me_comp {elt tg iter : Expr} {ifs : List Expr} {scope : Scope} {own : List (Str × Nat)} {it : SemI} {t : Tgt} {sl : List Nat} {tt : SemT} {te : Sem} (hN : X.N.Nodup) (hi : MI X xc W tg iter it) (ok : BlkOk X.N X.env.scope scope own)
    (hg : ∀ (s : Shared) (H : Hp) (C : Addr) (cl : List (Str × Addr)) (fp : List Addr), MG (X.blk s H scope (compEnvC scope cl C X.env) fp) xc tg t sl)
    (ht : ∀ (s : Shared) (H : Hp) (C : Addr) (cl : List (Str × Addr)) (fp : List Addr), MTs (X.blk s H scope (compEnvC scope cl C X.env) fp) xc W0 ifs tt)
    (he : ∀ (s : Shared) (H : Hp) (C : Addr) (cl : List (Str × Addr)) (fp : List Addr), ME (X.blk s H scope (compEnvC scope cl C X.env) fp) xc W0 elt te)
    (hsl : ∀ i ∈ sl, i ∈ own.map (·.2) := by decide) (hc : X.calm = true := by rfl) (hs : ∀ x, foldedSetIterable iter X.env x = pure x := by intro _; rfl) :
    ME X xc W (.ListComp elt [⟨tg, iter, ifs, 0⟩] scope pos) (mComp it t tt te (own.map (·.2))) := by
  refine (pe_lc (g := tMG X.K xc t sl) (tt := tMT X.K xc W0 tt) (te := tM X.K xc W0 te) hc hN hi ok hg ht he hs).weak fun σ H Q ⟨ι, ρ, S, r, s, h⟩ => ⟨ι, ρ, S, r, s, (post_bind h).imp ?_⟩
  rintro J H1 ⟨ι1, I, S1, p1, g1, s1, wk, h1⟩ D hD
  have re1 := r.mono p1 g1
  generalize hvs : own.map (·.2) = vs at *
  have sD : Sim X.K (ι1 ++ [D]) (S1 ++ [.lst []]) (upd H1 D (.lst [])) := s1.push hD ⟨[], upd_same, rfl⟩
  have hDn : (ι1 ++ [D])[S1.length]? = some D := by rw [← s1.len, List.getElem?_append_right (Nat.le_refl _)]; simp
  refine ⟨fun i m H2 => i + m = I.n ∧ ∃ ι2 ρ2 S2, (ι1 ++ [D]) <+: ι2 ∧ Gr (upd H1 D (.lst [])) H2 ∧ RelE X.K ι2 H2 xc ρ2 σ ∧ Sim X.K ι2 S2 H2 ∧ PostD X.K ι2 H2 (compLoop I t tt te vs S1.length m i ρ2 S2) Q (WE W σ),
    ⟨I.n, by simp, _, ρ, _, List.prefix_refl _, Gr.refl _, re1.mono (pre_snoc _ _) (Gr.new hD), sD, h1.mono (pre_snoc _ _) (Gr.new hD)⟩, ?_⟩
  rintro i m H2 ⟨hm, ι2, ρ2, S2, p2, g2, re2, s2, h2⟩
  have hD2 := pre_get p2 hDn
  obtain ⟨w1, w2⟩ := wk ι2 S2 H2 ((pre_snoc ι1 D).trans p2) ((Gr.new hD).trans g2) s2
  cases m with
  | zero =>
    have hi : i = I.n := by omega
    subst hi
    unfold compLoop at h2
    split at h2
    · rename_i hst
      exact .inl ⟨w2 hst, h2.give s2 (Mx.rd1 hD2)⟩
    · exact h2.elim
  | succ m =>
    unfold compLoop at h2
    split at h2
    · rename_i d hd
      obtain ⟨z1, z2⟩ := w1 i d (by omega) hd
      refine .inr ⟨z1, fun H' => ∃ ι' ρ' S', (ι1 ++ [D]) <+: ι' ∧ Gr (upd H1 D (.lst [])) H' ∧ RelE X.K ι' H' xc ρ' σ ∧ Sim X.K ι' S' H' ∧ PostD X.K ι' H' (compLoop I t tt te vs S1.length m (i + 1) ρ' S') Q (WE W σ), fun H' q => ⟨m, Nat.lt_succ_self m, by omega, q⟩, fun x H3 hy => ?_⟩
      obtain ⟨g3, s3, rd3⟩ := z2 x H3 hy
      split at h2
      · rename_i ρ1 hρ
        refine ⟨ι2, ρ2.wipe vs, S2, d, (re2.mono (List.prefix_refl _) g3).wipe vs, s3, rd3, ρ1, hρ, fun σ1 re1 sw => ⟨?_, ?_⟩⟩
        · rw [sw vs hsl]
          apply List.ext_getElem?
          intro j
          rw [wipe_get, wipe_get, wipe_length]
          split <;> rfl
        · have h3 := Post.mono (List.prefix_refl ι2) g3 h2
          refine ⟨ι2, ρ1, S2, re1, s3, (nox_bind h3).imp ?_⟩
          rintro c H4 ⟨ι4, c', S4, p4, g4, s4, rc, h4⟩
          cases rc
          cases c with
          | false =>
            rw [if_neg Bool.false_ne_true] at h4 ⊢
            exact ⟨ι4, ρ2, S4, p2.trans p4, (g2.trans g3).trans g4, re2.mono p4 (g3.trans g4), s4, h4⟩
          | true =>
            rw [if_pos rfl] at h4 ⊢
            refine ⟨ι4, ρ1, S4, re1.mono p4 g4, s4, (nox_bind h4).imp ?_⟩
            rintro y H5 ⟨ι5, dy, S5, p5, g5, s5, ry, h5⟩
            split at h5
            · rename_i acc hS
              split at h5
              · rename_i hl
                have hD5 := pre_get (p4.trans p5) hD2
                obtain ⟨va, hHa, ra⟩ := s5.is hD5 hS
                have gp : Gr H5 (upd H5 D (.lst (va ++ [y]))) := Gr.put hHa fun z => z
                refine ⟨va, hHa, by rw [← ra.length]; exact hl, ι5, ρ2, _, p2.trans (p4.trans p5), ((((g2.trans g3).trans g4).trans g5).trans gp), re2.mono (p4.trans p5) (((g3.trans g4).trans g5).trans gp),
                  s5.put (ob := .lst (acc ++ [dy])) hD5 hHa (fun z => z) ⟨_, upd_same, RelDs.snoc (ra.mono (List.prefix_refl _) gp) (ry.mono (List.prefix_refl _) gp)⟩, h5.mono (List.prefix_refl _) gp⟩
              · exact h5.elim
            · exact h5.elim
      · exact h2.elim
    · exact h2.elim
end
end Mx

namespace Mx
open PySem L2 PySem.Spec PyProof.Rows
/-! ### data as a whole -/
def mapO {α β : Type} (f : α → Option β) : List α → Option (List β)
  | [] => some []
  | a :: r => match f a, mapO f r with
    | some b, some bs => some (b :: bs)
    | _, _ => none
/-- what == and in look at: numbers, texts, None, tuples and lists of these -/
def pd (S : Sto) : Nat → D → Option PyData
  | 0, _ => none
  | f + 1, d => match d with
    | .non => some .none
    | .bl b => some (.bool b)
    | .int i => some (.int i)
    | .str x => if PyData.strOk x then some (.str x) else none
    | .tup ds => (mapO (fun d => pd S f d) ds).map .tuple
    | .ref n => (match S[n]? with
      | some (.lst ds) => (mapO (fun d => pd S f d) ds).map .list
      | _ => none)
    | _ => none
theorem mapO_cons {α β : Type} {f : α → Option β} {a : α} {r : List α} {bs : List β} (h : mapO f (a :: r) = some bs) : ∃ b bs', f a = some b ∧ mapO f r = some bs' ∧ bs = b :: bs' := by
  unfold mapO at h
  split at h
  · rename_i b bs' h1 h2
    cases h
    exact ⟨b, bs', h1, h2, rfl⟩
  · cases h
section
variable {K : PySem.W.Frag} {ι : List Addr} {H : Hp} {S : Sto}
mutual
theorem pd_dp (s : Sim K ι S H) : ∀ (f : Nat) (d : D) (x : PyData) (v : V), pd S f d = some x → RelD K ι H d v → Dp K H v x
  | 0, d, x, v, h, r => by unfold pd at h; cases h
  | f + 1, .non, x, v, h, r => by unfold pd at h; cases h; have e : v = .non := by simpa [RelD] using r
                                  subst e; exact .non
  | f + 1, .bl b, x, v, h, r => by unfold pd at h; cases h; have e : v = .bl b := by simpa [RelD] using r
                                   subst e; exact .bl b
  | f + 1, .int i, x, v, h, r => by unfold pd at h; cases h; have e : v = .int i := by simpa [RelD] using r
                                    subst e; exact .int i
  | f + 1, .str i, x, v, h, r => by
    unfold pd at h
    simp only at h
    split at h
    · cases h
      have e : v = .str i := by simpa [RelD] using r
      subst e; exact .str i
    · cases h
  | f + 1, .tup ds, x, v, h, r => by
    unfold pd at h
    simp only [Option.map_eq_some_iff] at h
    obtain ⟨xs, hx, rfl⟩ := h
    unfold RelD at r
    obtain ⟨a, vs, rfl, ht, rs⟩ := r
    exact .tup ht (pd_dpl s f ds xs vs hx rs)
  | f + 1, .ref n, x, v, h, r => by
    unfold pd at h
    simp only at h
    split at h
    · rename_i ds hS
      simp only [Option.map_eq_some_iff] at h
      obtain ⟨xs, hx, rfl⟩ := h
      obtain ⟨a, ha, rfl⟩ := r.ref_of
      obtain ⟨vs, hH, rs⟩ := s.is ha hS
      exact .lst (SqL.of hH) (pd_dpl s f ds xs vs hx rs)
    · cases h
  | f + 1, .scr _, x, v, h, r => by unfold pd at h; cases h
  | f + 1, .ty _, x, v, h, r => by unfold pd at h; cases h
  | f + 1, .cls _, x, v, h, r => by unfold pd at h; cases h
  | f + 1, .opq, x, v, h, r => by unfold pd at h; cases h
theorem pd_dpl (s : Sim K ι S H) : ∀ (f : Nat) (ds : List D) (xs : List PyData) (vs : List V), mapO (fun d => pd S f d) ds = some xs → RelDs K ι H ds vs → DpAll K H vs xs
  | f, [], xs, vs, h, r => by
    have e : vs = [] := r
    subst e
    unfold mapO at h; cases h; exact .nil
  | f, d :: ds, xs, vs, h, r => by
    obtain ⟨b, bs, h1, h2, rfl⟩ := mapO_cons h
    obtain ⟨v, rr, rfl, r1, r2⟩ := r
    exact .cons (pd_dp s f d b v h1 r1) (pd_dpl s f ds bs rr h2 r2)
end
mutual
theorem pd_lay : ∀ (f : Nat) (d : D) (x : PyData), pd S f d = some x → x.canLay0 = true ∧ x.depth ≤ f
  | 0, d, x, h => by unfold pd at h; cases h
  | f + 1, .non, x, h => by unfold pd at h; cases h; simp [PyData.canLay0, PyData.depth]
  | f + 1, .bl b, x, h => by unfold pd at h; cases h; simp [PyData.canLay0, PyData.depth]
  | f + 1, .int i, x, h => by unfold pd at h; cases h; simp [PyData.canLay0, PyData.depth]
  | f + 1, .str i, x, h => by
    unfold pd at h
    simp only at h
    split at h
    · rename_i hs
      cases h
      simp [PyData.canLay0, PyData.depth, hs]
    · cases h
  | f + 1, .tup ds, x, h => by
    unfold pd at h
    simp only [Option.map_eq_some_iff] at h
    obtain ⟨xs, hx, rfl⟩ := h
    obtain ⟨h1, h2⟩ := pd_layl f ds xs hx
    refine ⟨by simpa [PyData.canLay0] using h1, ?_⟩
    simp only [PyData.depth]; omega
  | f + 1, .ref n, x, h => by
    unfold pd at h
    simp only at h
    split at h
    · rename_i ds hS
      simp only [Option.map_eq_some_iff] at h
      obtain ⟨xs, hx, rfl⟩ := h
      obtain ⟨h1, h2⟩ := pd_layl f ds xs hx
      refine ⟨by simpa [PyData.canLay0] using h1, ?_⟩
      simp only [PyData.depth]; omega
    · cases h
  | f + 1, .scr _, x, h => by unfold pd at h; cases h
  | f + 1, .ty _, x, h => by unfold pd at h; cases h
  | f + 1, .cls _, x, h => by unfold pd at h; cases h
  | f + 1, .opq, x, h => by unfold pd at h; cases h
theorem pd_layl : ∀ (f : Nat) (ds : List D) (xs : List PyData), mapO (fun d => pd S f d) ds = some xs → PyData.canLayAll0 xs = true ∧ PyData.depthAll xs ≤ f
  | f, [], xs, h => by unfold mapO at h; cases h; simp [PyData.canLayAll0, PyData.depthAll]
  | f, d :: ds, xs, h => by
    obtain ⟨b, bs, h1, h2, rfl⟩ := mapO_cons h
    obtain ⟨a1, a2⟩ := pd_lay f d b h1
    obtain ⟨b1, b2⟩ := pd_layl f ds bs h2
    simp only [PyData.canLayAll0, PyData.depthAll, a1, b1, Bool.and_self, true_and]
    omega
end
theorem pd_shaped {f : Nat} {d : D} {x : PyData} (hf : f ≤ 64) (h : pd S f d = some x) : SeqAt.shaped x = true := by
  obtain ⟨h1, h2⟩ := pd_lay f d x h
  unfold SeqAt.shaped
  rw [h1]
  simp; omega
end
/-! ### == and in over data -/
def opEq (a b : D) (S : Sto) : R D := match pd S 60 a, pd S 60 b with
  | some x, some y => .ok (.bl (PyData.eqv x y)) S
  | _, _ => .bad
def opNe (a b : D) (S : Sto) : R D := match pd S 60 a, pd S 60 b with
  | some x, some y => .ok (.bl (!PyData.eqv x y)) S
  | _, _ => .bad
/-- in, over a list or tuple of data -/
def opIn (neg : Bool) (a b : D) (S : Sto) : R D := match pd S 60 a, pd S 60 b with
  | some x, some (.tuple ys) => .ok (.bl (xor neg (ys.any fun z => PyData.eqv z x))) S
  | some x, some (.list ys) => .ok (.bl (xor neg (ys.any fun z => PyData.eqv z x))) S
  | _, _ => .bad
section
variable {X : Cx}
theorem om_eq (hu : X.A.units + 64 < cLine) : OpM X (compareOp .Eq) opEq := ⟨_, op_eqD hu, fun ι H S a b v w Q E s ra rb h => by
  unfold opEq at h
  split at h
  · rename_i x y h1 h2
    exact ⟨x, y, pd_dp s 60 a x v h1 ra, pd_dp s 60 b y w h2 rb, pd_shaped (by decide) h1, pd_shaped (by decide) h2, h.give s (by simp [RelD])⟩
  · exact h.elim⟩
theorem om_ne (hu : X.A.units + 64 < cLine) : OpM X (compareOp .NotEq) opNe := ⟨_, op_neD hu, fun ι H S a b v w Q E s ra rb h => by
  unfold opNe at h
  split at h
  · rename_i x y h1 h2
    exact ⟨x, y, pd_dp s 60 a x v h1 ra, pd_dp s 60 b y w h2 rb, pd_shaped (by decide) h1, pd_shaped (by decide) h2, h.give s (by simp [RelD])⟩
  · exact h.elim⟩
def rInT (K : PySem.W.Frag) (neg : Bool) : R2 := fun x y H Q => ∃ d ds, Dp K H x d ∧ (Dp K H y (.list ds) ∨ Dp K H y (.tuple ds)) ∧ SeqAt.shaped d = true ∧ PyData.canLayAll0 ds = true ∧ Q (.bl (xor neg (ds.any fun z => PyData.eqv z d))) H
theorem op_inT (hu : X.A.units + 65 < cLine) : OpR X (compareOp .In) (rInT X.K false) := by
  intro pins s σ H x y v u Q I rx ry h
  obtain ⟨d, ds, hd, he, sd, se, q⟩ := h
  rw [Bool.false_xor] at q
  obtain ⟨as, r1⟩ := Dp.reads I d x v hd rx
  rcases he with he | he
  · obtain ⟨bs, r2⟩ := Dp.reads I _ y u he ry
    exact SeqAt.in_list_reads r2 r1 se (SeqAt.canLay_of_shaped sd) (room_in_shaped sd hu) ⟨.bl _, H, I, rfl, q⟩
  · obtain ⟨bs, r2⟩ := Dp.reads I _ y u he ry
    exact SeqAt.in_tuple_reads r2 r1 se (SeqAt.canLay_of_shaped sd) (room_in_shaped sd hu) ⟨.bl _, H, I, rfl, q⟩
theorem op_niT (hu : X.A.units + 65 < cLine) : OpR X (compareOp .NotIn) (rInT X.K true) := by
  intro pins s σ H x y v u Q I rx ry h
  obtain ⟨d, ds, hd, he, sd, se, q⟩ := h
  rw [Bool.true_xor] at q
  obtain ⟨as, r1⟩ := Dp.reads I d x v hd rx
  rcases he with he | he
  · obtain ⟨bs, r2⟩ := Dp.reads I _ y u he ry
    exact SeqAt.notIn_list_reads r2 r1 se (SeqAt.canLay_of_shaped sd) (room_in_shaped sd hu) ⟨.bl _, H, I, rfl, q⟩
  · obtain ⟨bs, r2⟩ := Dp.reads I _ y u he ry
    exact SeqAt.notIn_tuple_reads r2 r1 se (SeqAt.canLay_of_shaped sd) (room_in_shaped sd hu) ⟨.bl _, H, I, rfl, q⟩
theorem in_weak {neg : Bool} {ι : List Addr} {H : Hp} {S : Sto} {a b : D} {v w : V} {Q : VK} {E : XK} (s : Sim X.K ι S H) (ra : RelD X.K ι H a v) (rb : RelD X.K ι H b w) (h : PostD X.K ι H (opIn neg a b S) Q E) : rInT X.K neg v w H Q := by
  unfold opIn at h
  split at h
  · rename_i x ys h1 h2
    exact ⟨x, ys, pd_dp s 60 a x v h1 ra, .inr (pd_dp s 60 b _ w h2 rb), pd_shaped (by decide) h1, by simpa [PyData.canLay0] using (pd_lay 60 b _ h2).1, h.give s (by simp [RelD])⟩
  · rename_i x ys h1 h2
    exact ⟨x, ys, pd_dp s 60 a x v h1 ra, .inl (pd_dp s 60 b _ w h2 rb), pd_shaped (by decide) h1, by simpa [PyData.canLay0] using (pd_lay 60 b _ h2).1, h.give s (by simp [RelD])⟩
  · exact h.elim
theorem om_in (hu : X.A.units + 65 < cLine) : OpM X (compareOp .In) (opIn false) := ⟨_, op_inT hu, fun ι H S a b v w Q E s ra rb h => in_weak s ra rb h⟩
theorem om_ni (hu : X.A.units + 65 < cLine) : OpM X (compareOp .NotIn) (opIn true) := ⟨_, op_niT hu, fun ι H S a b v w Q E s ra rb h => in_weak s ra rb h⟩
/-! ### numbers -/
def opII (C : Int → Int → Bool) (g : Int → Int → D) (a b : D) (S : Sto) : R D := match a, b with
  | .int i, .int j => if C i j then .ok (g i j) S else .bad
  | _, _ => .bad
abbrev yes2 : Int → Int → Bool := fun _ _ => true
theorem om_II {f : Value → Value → PySem.Sem Value} {C' : Int → Int → Prop} {C : Int → Int → Bool} {g : Int → Int → D} {g' : Int → Int → V} (h : OpR X f (rI C' g')) (hC : ∀ i j, C i j = true → C' i j) (hg : ∀ ι H i j, RelD X.K ι H (g i j) (g' i j)) : OpM X f (opII C g) :=
  ⟨_, h, fun ι H S a b v w Q E s ra rb q => by
    unfold opII at q
    split at q
    · rename_i i j
      split at q
      · rename_i hc
        have e1 : v = .int i := by simpa [RelD] using ra
        have e2 : w = .int j := by simpa [RelD] using rb
        exact ⟨i, j, e1, e2, hC i j hc, q.give s (hg ι H i j)⟩
      · exact q.elim
    · exact q.elim⟩
theorem om_II0 {f : Value → Value → PySem.Sem Value} {g : Int → Int → D} {g' : Int → Int → V} (h : OpR X f (rI0 g')) (hg : ∀ ι H i j, RelD X.K ι H (g i j) (g' i j)) : OpM X f (opII yes2 g) :=
  ⟨_, h, fun ι H S a b v w Q E s ra rb q => by
    unfold opII at q
    split at q
    · rename_i i j
      split at q
      · have e1 : v = .int i := by simpa [RelD] using ra
        have e2 : w = .int j := by simpa [RelD] using rb
        exact ⟨i, j, e1, e2, q.give s (hg ι H i j)⟩
      · exact q.elim
    · exact q.elim⟩
abbrev opSub := opII yes2 fun i j => .int (i - j)
abbrev opLt := opII yes2 fun i j => .bl (decide (i < j))
abbrev opLe := opII yes2 fun i j => .bl (decide (i ≤ j))
abbrev opGt := opII yes2 fun i j => .bl (decide (j < i))
abbrev opGe := opII yes2 fun i j => .bl (decide (j ≤ i))
abbrev opMod := opII (fun _ j => decide (0 < j)) fun i j => .int (i % j)
abbrev opFdiv := opII (fun _ j => decide (0 < j) && decide (j.natAbs < 2 ^ 4000)) fun i j => .int (i / j)
abbrev opPow := opII (fun i j => decide (0 ≤ j) && (decide (j ≤ 1000000) && decide (i.natAbs < 2 ^ 64))) fun i j => .int (i ^ j.toNat)
theorem om_sub : OpM X (binaryOp .Sub) opSub := om_II0 op_sub fun _ _ _ _ => by simp [RelD]
theorem om_lt : OpM X (compareOp .Lt) opLt := om_II0 op_lt fun _ _ _ _ => by simp [RelD]
theorem om_le : OpM X (compareOp .LtE) opLe := om_II0 op_le fun _ _ _ _ => by simp [RelD]
theorem om_gt : OpM X (compareOp .Gt) opGt := om_II0 op_gt fun _ _ _ _ => by simp [RelD]
theorem om_ge : OpM X (compareOp .GtE) opGe := om_II0 op_ge fun _ _ _ _ => by simp [RelD]
theorem om_mod : OpM X (binaryOp .Mod) opMod := om_II op_mod (fun i j h => of_decide_eq_true h) fun _ _ _ _ => by simp [RelD]
theorem om_fdiv : OpM X (binaryOp .FloorDiv) opFdiv := om_II op_fdivW (fun i j h => by
  simp only [Bool.and_eq_true, decide_eq_true_eq] at h
  exact wide_div h.1 h.2 (by decide) (by decide)) fun _ _ _ _ => by simp [RelD]
theorem om_pow : OpM X (binaryOp .Pow) opPow := om_II op_pow (fun i j h => by
  simp only [Bool.and_eq_true, decide_eq_true_eq] at h
  exact ⟨h.1, h.2.1, h.2.2⟩) fun _ _ _ _ => by simp [RelD]
def mulC (i j : Int) : Bool := (decide (i.natAbs < 2 ^ 60) || decide (j.natAbs < 2 ^ 60)) || (decide (i.natAbs < 2 ^ 4000) && decide (j.natAbs < 2 ^ 4000))
def opMul (a b : D) (S : Sto) : R D := match a, b with
  | .int i, .int j => if mulC i j then .ok (.int (i * j)) S else .bad
  | .ref n, .int k => (match S[n]? with
    | some (.lst ds) => if -(2 ^ 63) ≤ k ∧ k < 2 ^ 63 ∧ ds.length * k.toNat ≤ sizeLine then .ok (.ref S.length) (S ++ [.lst (List.replicate k.toNat ds).flatten]) else .bad
    | _ => .bad)
  | .tup ds, .int k => if ds ≠ [] ∧ 2 ≤ k ∧ k ≤ 1000 ∧ ds.length ≤ 1000 then .ok (.tup (List.replicate k.toNat ds).flatten) S else .bad
  | _, _ => .bad
theorem RelDs.rep {K : PySem.W.Frag} {ι : List Addr} {H : Hp} {ds : List D} {vs : List V} (h : RelDs K ι H ds vs) : ∀ k : Nat, RelDs K ι H (List.replicate k ds).flatten (List.replicate k vs).flatten
  | 0 => rfl
  | k + 1 => by
    rw [List.replicate_succ, List.replicate_succ, List.flatten_cons, List.flatten_cons]
    exact h.append (RelDs.rep h k)
theorem RelDs.ne {K : PySem.W.Frag} {ι : List Addr} {H : Hp} {ds : List D} {vs : List V} (h : RelDs K ι H ds vs) : ds = [] ↔ vs = [] := by
  have e := h.length
  constructor
  · rintro rfl; exact h
  · rintro rfl; exact List.length_eq_zero_iff.mp e
theorem om_mul : OpM X (binaryOp .Mult) opMul := ⟨_, ((op_mul.or op_mulW).or op_rep).or op_repT, fun ι H S a b v w Q E s ra rb q => by
  unfold opMul at q
  split at q
  · rename_i i j
    split at q
    · rename_i hc
      have e1 : v = .int i := by simpa [RelD] using ra
      have e2 : w = .int j := by simpa [RelD] using rb
      have q := q.give (v := .int (i * j)) s (by simp [RelD])
      unfold mulC at hc
      simp only [Bool.or_eq_true, Bool.and_eq_true, decide_eq_true_eq] at hc
      rcases hc with hc | hc
      · exact .inl (.inl (.inl ⟨i, j, e1, e2, by unfold CMul; omega, q⟩))
      · exact .inl (.inl (.inr ⟨i, j, e1, e2, wide_mul hc.1 hc.2 (by decide) (by decide) (by decide), q⟩))
    · exact q.elim
  · rename_i n k
    obtain ⟨a, ha, rfl⟩ := ra.ref_of
    have e2 : w = .int k := by simpa [RelD] using rb
    split at q
    · rename_i ds hS
      split at q
      · rename_i hk
        obtain ⟨vs, hH, rs⟩ := s.is ha hS
        exact .inl (.inr ⟨a, k, vs, rfl, e2, hH, hk.1, hk.2.1, by rw [← rs.length]; exact hk.2.2, fun p hp => PostD.giveL s hp (rs.rep _) q⟩)
      · exact q.elim
    · exact q.elim
  · rename_i ds k
    unfold RelD at ra
    obtain ⟨a, vs, rfl, ht, rs⟩ := ra
    have e2 : w = .int k := by simpa [RelD] using rb
    split at q
    · rename_i hk
      exact .inr ⟨a, k, vs, rfl, e2, ht, fun z => hk.1 (rs.ne.mpr z), hk.2.1, hk.2.2.1, by rw [← rs.length]; exact hk.2.2.2, fun p hp => PostD.giveT s hp (rs.rep _) q⟩
    · exact q.elim
  · exact q.elim⟩
def opAdd (a b : D) (S : Sto) : R D := match a, b with
  | .int i, .int j => .ok (.int (i + j)) S
  | .str x, .str y => if x.length + y.length ≤ sizeLine then .ok (.str (x ++ y)) S else .bad
  | .tup ds, .tup es => if ds.length + es.length ≤ sizeLine then .ok (.tup (ds ++ es)) S else .bad
  | .ref n, .ref m => (match S[n]?, S[m]? with
    | some (.lst ds), some (.lst es) => if ds.length + es.length ≤ sizeLine then .ok (.ref S.length) (S ++ [.lst (ds ++ es)]) else .bad
    | _, _ => .bad)
  | _, _ => .bad
theorem om_add : OpM X (binaryOp .Add) opAdd := ⟨_, ((op_add.or op_add_str).or op_catA).or op_cat, fun ι H S a b v w Q E s ra rb q => by
  unfold opAdd at q
  split at q
  · rename_i i j
    have e1 : v = .int i := by simpa [RelD] using ra
    have e2 : w = .int j := by simpa [RelD] using rb
    exact .inl (.inl (.inl ⟨i, j, e1, e2, q.give s (by simp [RelD])⟩))
  · rename_i x y
    have e1 : v = .str x := by simpa [RelD] using ra
    have e2 : w = .str y := by simpa [RelD] using rb
    split at q
    · rename_i hl
      exact .inl (.inl (.inr ⟨x, y, e1, e2, hl, q.give s (by simp [RelD])⟩))
    · exact q.elim
  · rename_i ds es
    have ra' := ra
    have rb' := rb
    unfold RelD at ra rb
    obtain ⟨a, vs, rfl, ha, rs⟩ := ra
    obtain ⟨b, ws, rfl, hb, rt⟩ := rb
    split at q
    · rename_i hl
      refine .inl (.inr ⟨a, b, vs, ws, rfl, rfl, ha, hb, by rw [← rs.length, ← rt.length]; exact hl, fun e => ?_, fun e1 e2 => ?_, fun e1 e2 p hp => PostD.giveT s hp (rs.append rt) q⟩)
      · have e := rs.ne.mpr e
        subst e
        exact q.give s rb'
      · have e := rt.ne.mpr e2
        subst e
        rw [List.append_nil] at q
        exact q.give s ra'
    · exact q.elim
  · rename_i n m
    obtain ⟨a, ha, rfl⟩ := ra.ref_of
    obtain ⟨b, hb, rfl⟩ := rb.ref_of
    split at q
    · rename_i ds es h1 h2
      split at q
      · rename_i hl
        obtain ⟨vs, hH, rs⟩ := s.is ha h1
        obtain ⟨ws, hH2, rt⟩ := s.is hb h2
        exact .inr ⟨a, b, vs, ws, rfl, rfl, hH, hH2, by rw [← rs.length, ← rt.length]; exact hl, fun p hp => PostD.giveL s hp (rs.append rt) q⟩
      · exact q.elim
    · exact q.elim
  · exact q.elim⟩
def unNeg (a : D) (S : Sto) : R D := match a with
  | .int i => .ok (.int (-i)) S
  | _ => .bad
theorem um_neg : UnM X (unaryOp .USub) unNeg := ⟨_, un_neg, fun ι H S a v Q E s ra q => by
  unfold unNeg at q
  split at q
  · rename_i i
    exact ⟨i, by simpa [RelD] using ra, q.give s (by simp [RelD])⟩
  · exact q.elim⟩
end
end Mx

namespace Mx
open PySem L2 PySem.Spec PyProof.Rows
/-! ### dicts of the store -/
def keyD : D → Option Key
  | .int i => some (.inl i)
  | .str x => some (.inr x)
  | _ => none
def getK (kvs : List (Key × D)) (k : Key) : Option D := (kvs.find? fun kv => decide (kv.1 = k)).map (·.2)
def setK (kvs : List (Key × D)) (k : Key) (d : D) : List (Key × D) := if (getK kvs k).isSome then kvs.map fun kv => if kv.1 = k then (kv.1, d) else kv else kvs ++ [(k, d)]
section
variable {K : PySem.W.Frag} {ι : List Addr} {H : Hp} {S : Sto}
theorem keyD_rel {d : D} {k : Key} {v : V} (h : keyD d = some k) (r : RelD K ι H d v) : v = kV k := by
  unfold keyD at h
  split at h
  · cases h; simpa [RelD, kV] using r
  · cases h; simpa [RelD, kV] using r
  · cases h
theorem RelKV.len : ∀ {kvs : List (Key × D)} {vs : List (Key × V)}, RelKV K ι H kvs vs → kvs.length = vs.length
  | [], vs, h => by have h : vs = [] := h; subst h; rfl
  | (k, d) :: r, vs, h => by obtain ⟨v, r', rfl, h1, h2⟩ := h; simp [RelKV.len h2]
theorem RelKV.get {k : Key} : ∀ {kvs : List (Key × D)} {vs : List (Key × V)}, RelKV K ι H kvs vs → match getK kvs k with
    | some d => ∃ v, valV vs k = some v ∧ RelD K ι H d v
    | none => valV vs k = none
  | [], vs, h => by have h : vs = [] := h; subst h; rfl
  | (j, d) :: r, vs, h => by
    obtain ⟨v, r', rfl, h1, h2⟩ := h
    have ih := RelKV.get (k := k) h2
    by_cases e : j = k
    · have e1 : getK ((j, d) :: r) k = some d := by simp [getK, List.find?_cons, e]
      rw [e1, valV_pos (show ((j, v) : Key × V).1 = k from e)]
      exact ⟨v, rfl, h1⟩
    · have e1 : getK ((j, d) :: r) k = getK r k := by simp [getK, List.find?_cons, e]
      rw [e1, valV_neg (show ¬ ((j, v) : Key × V).1 = k from e)]
      exact ih
theorem RelKV.isSome {k : Key} {kvs : List (Key × D)} {vs : List (Key × V)} (h : RelKV K ι H kvs vs) : (valV vs k).isSome = (getK kvs k).isSome := by
  have q := h.get (k := k)
  cases e : getK kvs k with
  | some d => rw [e] at q; obtain ⟨v, q, _⟩ := q; rw [q]; rfl
  | none => rw [e] at q; rw [q]; rfl
theorem RelKV.mapR {k : Key} {d : D} {v : V} (hd : RelD K ι H d v) : ∀ {kvs : List (Key × D)} {vs : List (Key × V)}, RelKV K ι H kvs vs → RelKV K ι H (kvs.map fun kv => if kv.1 = k then (kv.1, d) else kv) (vs.map fun kv => if kv.1 = k then (kv.1, v) else kv)
  | [], vs, h => by have h : vs = [] := h; subst h; rfl
  | (j, e) :: r, vs, h => by
    obtain ⟨u, r', rfl, h1, h2⟩ := h
    rw [List.map_cons, List.map_cons]
    by_cases q : j = k
    · rw [if_pos (show ((j, e) : Key × D).1 = k from q), if_pos (show ((j, u) : Key × V).1 = k from q)]
      exact ⟨v, _, rfl, hd, RelKV.mapR hd h2⟩
    · rw [if_neg (show ¬ ((j, e) : Key × D).1 = k from q), if_neg (show ¬ ((j, u) : Key × V).1 = k from q)]
      exact ⟨u, _, rfl, h1, RelKV.mapR hd h2⟩
theorem RelKV.snoc {k : Key} {d : D} {v : V} (hd : RelD K ι H d v) : ∀ {kvs : List (Key × D)} {vs : List (Key × V)}, RelKV K ι H kvs vs → RelKV K ι H (kvs ++ [(k, d)]) (vs ++ [(k, v)])
  | [], vs, h => by have h : vs = [] := h; subst h; exact ⟨v, [], rfl, hd, rfl⟩
  | (j, e) :: r, vs, h => by
    obtain ⟨u, r', rfl, h1, h2⟩ := h
    exact ⟨u, _, rfl, h1, RelKV.snoc hd h2⟩
theorem putK_eq (vs : List (Key × V)) (k : Key) (v : V) : putK vs k v = if (valV vs k).isSome then vs.map fun kv => if kv.1 = k then (kv.1, v) else kv else vs ++ [(k, v)] := by
  unfold putK
  rw [valV_any]
theorem RelKV.put {k : Key} {d : D} {v : V} (hd : RelD K ι H d v) {kvs : List (Key × D)} {vs : List (Key × V)} (h : RelKV K ι H kvs vs) : RelKV K ι H (setK kvs k d) (putK vs k v) := by
  rw [putK_eq, h.isSome]
  unfold setK
  split
  · exact RelKV.mapR hd h
  · exact RelKV.snoc hd h
theorem RelOb.dict {a : Addr} {lk : Bool} {kvs : List (Key × D)} (h : RelOb K ι H a (.dic lk kvs)) : ∃ vs, Rd H a (.dK vs) ∧ RelKV K ι H kvs vs := by
  obtain ⟨vs, h, r⟩ := h
  refine ⟨vs, ?_, r⟩
  cases lk with
  | true => exact .inr (by simpa using h)
  | false => exact .inl (by simpa using h)
end
/-! ### a[b] -/
def ixD (ds : List D) (i : Int) : Option D := atI ds i
def opSub_ (a b : D) (S : Sto) : R D := match a, b with
  | .tup ds, .int i => (match atI ds i with
    | some d => .ok d S
    | none => .bad)
  | .str x, .int i => if x.length ≤ sizeLine then (match atI x.cps.toList i with
    | some c => .ok (.str ⟨#[c]⟩) S
    | none => .bad) else .bad
  | .ref n, k => (match S[n]? with
    | some (.lst ds) => (match k with
      | .int i => (match atI ds i with
        | some d => .ok d S
        | none => .bad)
      | _ => .bad)
    | some (.dic _ kvs) => (match keyD k with
      | some k => (match getK kvs k with
        | some d => .ok d S
        | none => .bad)
      | none => .bad)
    | _ => .bad)
  | _, _ => .bad
theorem RelDs.atI {K : PySem.W.Frag} {ι : List Addr} {H : Hp} {ds : List D} {vs : List V} {i : Int} {d : D} (r : RelDs K ι H ds vs) (h : atI ds i = some d) : ∃ v, atI vs i = some v ∧ RelD K ι H d v := by
  unfold L2.atI at h ⊢
  rw [← r.length]
  cases q : ixN ds.length i with
  | none => rw [q] at h; cases h
  | some j =>
    rw [q] at h
    exact r.get h
section
variable {X : Cx} {xc : XcP} {W : WX} {k : Nat} {pos : Pos}
def rIxDict : R2 := fun x y H Q => ∃ a v, x = .ref a ∧ DGet H a y (some v) ∧ Q v H
theorem ix_dict (hu : X.A.units + 1 < cLine) : IxR X rIxDict := by
  intro value slice pins s σ H x y v u Q I rx ry h hs
  obtain ⟨a, z, rfl, g, q⟩ := h
  obtain rfl : v = Value.ref a := rx
  have hT := dict_typeIs I g
  unfold subscriptTail
  refine wpAny_bind ?_
  rw [getitemInPython_of_ne hT.not_modules]
  refine wpAny_bind (wpAny_specialOf hT PySem.F.slot_dict_getitem.lookup ?_)
  have fin : wpAny (model X.prog X.w) X.A (subscripted slice false (.ref a) u) (fun r s₃ => wpAny (model X.prog X.w) X.A (letTemporaryGo value (.ref a) r >>= fun _ => pure r) (EP X pins σ Q) X.xe s₃) X.xe s := by
    rw [hs]
    exact wpAny_operating (d_getItem hu I g ry fun w' s' I' rw' => wpAny_bind (wpAny_letTemporaryGo (wpAny_pure ⟨z, H, I', rw', q⟩)))
  first
    | exact wpAny_pure (wpAny_bind fin)
    | exact wpAny_bind (wpAny_pure (wpAny_bind fin))
    | exact wpAny_bind fin
theorem sub_weak {ι : List Addr} {H : Hp} {S : Sto} {a b : D} {v w : V} {Q : VK} {E : XK} (s : Sim X.K ι S H) (ra : RelD X.K ι H a v) (rb : RelD X.K ι H b w) (h : PostD X.K ι H (opSub_ a b S) Q E) :
    rIxDict v w H Q ∨ rIx X.K v w H Q := by
  unfold opSub_ at h
  split at h
  · rename_i ds i
    split at h
    · rename_i d hd
      unfold RelD at ra
      obtain ⟨a, vs, rfl, ht, rs⟩ := ra
      obtain ⟨u, hu, ru⟩ := rs.atI hd
      exact .inr (.inr (.inl ⟨a, vs, i, u, rfl, by simpa [RelD] using rb, ht, hu, h.give s ru⟩))
    · exact h.elim
  · rename_i x i
    split at h
    · rename_i hl
      split at h
      · rename_i c hc
        exact .inr (.inr (.inr ⟨x, i, c, by simpa [RelD] using ra, by simpa [RelD] using rb, hl, hc, h.give s (by simp [RelD])⟩))
      · exact h.elim
    · exact h.elim
  · rename_i n k
    obtain ⟨a, ha, rfl⟩ := ra.ref_of
    split at h
    · rename_i ds hS
      split at h
      · rename_i i
        split at h
        · rename_i d hd
          obtain ⟨vs, hH, rs⟩ := s.is ha hS
          obtain ⟨u, hu, ru⟩ := rs.atI hd
          exact .inr (.inl ⟨a, vs, i, u, rfl, by simpa [RelD] using rb, SqL.of hH, hu, h.give s ru⟩)
        · exact h.elim
      · exact h.elim
    · rename_i lk kvs hS
      split at h
      · rename_i k' hk
        split at h
        · rename_i d hd
          obtain ⟨vs, hH, rs⟩ := (s.is ha hS).dict
          have q := rs.get (k := k')
          rw [hd] at q
          obtain ⟨u, hu, ru⟩ := q
          exact .inl ⟨a, u, rfl, .inl ⟨vs, k', hH, keyD_rel hk rb, hu.symm⟩, h.give s ru⟩
        · exact h.elim
      · exact h.elim
    · exact h.elim
  · exact h.elim
theorem me_sub {a b : Expr} {fa fb : Sem} (cq : Cq X W k) (ha : ME X xc W a fa) (hb : ME X xc W b fb) (hs : PlainIx b := by intro _ _; rfl) : ME X xc W (.Subscript a b pos) (mOp opSub_ fa fb) :=
  (pe_ix ((ix_dict (hu_of cq.hr)).or ix_seq) ha hb hs).weak fun σ H Q h => op_weak (fun ι H S a b v w Q E s ra rb q => sub_weak s ra rb q) σ H Q h
/-! ### a[b] = v -/
def stSub (o i v : D) (S : Sto) : Option Sto := match o with
  | .ref n => (match S[n]? with
    | some (.lst ds) => (match i with
      | .int k => (ixN ds.length k).map fun j => S.set n (.lst (ds.set j v))
      | _ => none)
    | some (.dic false kvs) => (match keyD i with
      | some k => if kvs.length < sizeLine then some (S.set n (.dic false (setK kvs k v))) else none
      | none => none)
    | _ => none)
  | _ => none
def rSetD : TSet := fun o i v H Q => ∃ a H4, o = .ref a ∧ DPut H a i v H4 ∧ Q H4
theorem set_dict (hu : X.A.units + 1 < cLine) : PSet X rSetD := by
  intro pins s σ H o i v ov iv u Q I ro ri rv h
  obtain ⟨a, H4, rfl, g, q⟩ := h
  obtain rfl : ov = Value.ref a := ro
  exact d_setItem hu I g ri rv fun s4 I4 => ⟨H4, I4, q⟩
theorem PSet.or {t t' : TSet} (h : PSet X t) (h' : PSet X t') : PSet X (fun o i v H Q => t o i v H Q ∨ t' o i v H Q) := by
  intro pins s σ H o i v ov iv u Q I ro ri rv q
  rcases q with q | q
  · exact h pins s σ H o i v ov iv u Q I ro ri rv q
  · exact h' pins s σ H o i v ov iv u Q I ro ri rv q
theorem RelDs.set {K : PySem.W.Frag} {ι : List Addr} {H : Hp} {d : D} {v : V} (h : RelD K ι H d v) : ∀ {ds : List D} {vs : List V} (j : Nat), RelDs K ι H ds vs → RelDs K ι H (ds.set j d) (vs.set j v)
  | [], vs, j, r => by have r : vs = [] := r; subst r; rfl
  | e :: ds, vs, 0, r => by obtain ⟨u, r', rfl, r1, r2⟩ := r; exact ⟨v, r', rfl, h, r2⟩
  | e :: ds, vs, j + 1, r => by obtain ⟨u, r', rfl, r1, r2⟩ := r; exact ⟨u, _, rfl, r1, RelDs.set h j r2⟩
theorem set_weak {ι : List Addr} {H : Hp} {S S' : Sto} {o i d : D} {vo vi v : V} {Q : Hp → Prop} (s : Sim X.K ι S H) (ro : RelD X.K ι H o vo) (ri : RelD X.K ι H i vi) (rd : RelD X.K ι H d v) (e : stSub o i d S = some S')
    (h : ∀ H', Gr H H' → Sim X.K ι S' H' → Q H') : rSetL vo vi v H Q ∨ rSetD vo vi v H Q := by
  unfold stSub at e
  split at e
  · rename_i n
    obtain ⟨a, ha, rfl⟩ := ro.ref_of
    split at e
    · rename_i ds hS
      split at e
      · rename_i k
        obtain ⟨j, hj, rfl⟩ := Option.map_eq_some_iff.mp e
        obtain ⟨vs, hH, rs⟩ := s.is ha hS
        have gp : Gr H (upd H a (.lst (vs.set j v))) := Gr.put hH fun z => z
        exact .inl ⟨a, vs, k, j, rfl, by simpa [RelD] using ri, hH, by rw [← rs.length]; exact hj,
          h _ gp (s.put (ob := .lst (ds.set j d)) ha hH (fun z => z) ⟨_, upd_same, RelDs.set (rd.mono (List.prefix_refl _) gp) j (rs.mono (List.prefix_refl _) gp)⟩)⟩
      · cases e
    · rename_i kvs hS
      split at e
      · rename_i k hk
        split at e
        · rename_i hl
          cases e
          obtain ⟨vs, hH, rs⟩ := s.is ha hS
          have hH : H a = some (.dK vs) := by simpa using hH
          have gp : Gr H (upd H a (.dK (putK vs k v))) := Gr.put hH fun z => z
          exact .inr ⟨a, _, rfl, .inl ⟨vs, k, hH, keyD_rel hk ri, by rw [← rs.len]; exact hl, rfl⟩,
            h _ gp (s.put (ob := .dic false (setK kvs k d)) ha hH (fun z => z) ⟨_, by simpa using upd_same, RelKV.put (rd.mono (List.prefix_refl _) gp) (rs.mono (List.prefix_refl _) gp)⟩)⟩
        · cases e
      · cases e
    · cases e
  · cases e
/-- targets that may store into objects -/
abbrev TgS := D → Env → Sto → RS
def tMGS (K : PySem.W.Frag) (xc : XcP) (W : WX) (t : TgS) : TG := fun v σ H Q => ∃ ι ρ S d, RelE K ι H xc ρ σ ∧ Sim K ι S H ∧ RelD K ι H d v ∧ PostS K xc W ι H (t d ρ S) { nx := Q, rt := fun _ _ => False }
def tMGSs (K : PySem.W.Frag) (xc : XcP) (W : WX) (t : List D → Env → Sto → RS) : TGs := fun v σ H Q => ∃ ι ρ S d, RelE K ι H xc ρ σ ∧ Sim K ι S H ∧ RelDs K ι H d v ∧ PostS K xc W ι H (t d ρ S) { nx := Q, rt := fun _ _ => False }
abbrev MGS (X : Cx) (xc : XcP) (W : WX) (tg : Expr) (t : TgS) : Prop := PG X tg (tMGS X.K xc W t)
abbrev MGSs (X : Cx) (xc : XcP) (W : WX) (tg : List Expr) (t : List D → Env → Sto → RS) : Prop := PGs X tg (tMGSs X.K xc W t)
def gpN (i : Nat) : TgS := fun d ρ S => .nx (ρ.set i d) S
def gpS (o i : Sem) : TgS := fun d ρ S => (o ρ S).thn ρ fun x S => (i ρ S).thn ρ fun y S => match stSub x y d S with
  | some S' => .nx ρ S'
  | none => .bad
def gpNil : List D → Env → Sto → RS := fun ds ρ S => match ds with
  | [] => .nx ρ S
  | _ => .bad
def gpCons (t : TgS) (u : List D → Env → Sto → RS) : List D → Env → Sto → RS := fun ds ρ S => match ds with
  | d :: r => (t d ρ S).bind fun ρ S => u r ρ S
  | _ => .bad
def gpT (n : Nat) (u : List D → Env → Sto → RS) : TgS := fun d ρ S => match d with
  | .tup ds => if ds.length = n then u ds ρ S else .bad
  | _ => .bad
theorem mgp_n {i : Nat} {x : Str} (hN : X.N.Nodup) (hi : X.N[i]? = some x := by rfl) (hx : Loc X.env.scope x := by first | exact Or.inl rfl | exact Or.inr rfl) (hf : X.fn x = true ∨ X.env.scope.names.lookup x = some .local := by first | exact .inl rfl | exact .inr rfl | assumption) : MGS X xc W (.Name x pos) (gpN i) :=
  (pg_name hN hi hx hf).weak fun v σ H Q ⟨ι, ρ, S, d, re, s, rd, q⟩ => PostS.give s (re.set rd) q
theorem mgp_s {o i : Expr} {fo fi : Sem} (cq : Cq X W k) (ho : ME X xc W o fo) (hi : ME X xc W i fi)
    (ha : ∀ v, assign (.Subscript o i pos) X.env v = (holding [v] (eval o X.env) >>= fun ov => holding [v, ov] (eval i X.env) >>= fun iv => standAt pos >>= fun _ => holding [v, ov, iv] (setItem ov iv v) >>= fun _ => release [v, ov, iv] []) := by intro _; rfl) : MGS X xc W (.Subscript o i pos) (gpS fo fi) := by
  refine (pg_sub ho hi (PSet.or set_list (set_dict (hu_of cq.hr))) ha).weak fun v σ H Q ⟨ι, ρ, S, d, re, s, rd, q⟩ => ?_
  refine TE.sub (tM_thn re s q) ?_
  rintro vo H1 ⟨ι1, d1, S1, p1, g1, re1, s1, ro, h1⟩
  refine TE.sub (tM_thn re1 s1 h1) ?_
  rintro vi H2 ⟨ι2, d2, S2, p2, g2, re2, s2, ri, h2⟩
  split at h2
  · rename_i S' e
    exact set_weak s2 (ro.mono p2 g2) ri (rd.mono (p1.trans p2) (g1.trans g2)) e fun H' g s' => h2 ι2 σ H' (List.prefix_refl _) g s' (re2.mono (List.prefix_refl _) g)
  · exact h2.elim
theorem mgps_nil : MGSs X xc W [] gpNil := pgs_nil.weak fun v σ H Q ⟨ι, ρ, S, ds, re, s, rd, q⟩ => by
  cases ds with
  | nil =>
    have h : v = [] := rd
    exact ⟨h, PostS.give s re q⟩
  | cons d ds => exact q.elim
theorem mgps_cons {e : Expr} {es : List Expr} {t : TgS} {u : List D → Env → Sto → RS} (h1 : MGS X xc W e t) (h2 : MGSs X xc W es u)
    (hs : (assignEach (e :: es) X.env).map (·.2) = assign e X.env :: (assignEach es X.env).map (·.2) := by rfl) : MGSs X xc W (e :: es) (gpCons t u) := by
  refine (pgs_cons h1 h2 hs).weak fun v σ H Q ⟨ι, ρ, S, ds, re, s, rd, q⟩ => ?_
  cases ds with
  | nil => exact q.elim
  | cons d ds =>
    obtain ⟨v, r, rfl, r1, r2⟩ := rd
    refine ⟨v, r, rfl, ι, ρ, S, d, re, s, r1, ?_⟩
    have q : PostS X.K xc W ι H ((t d ρ S).bind fun ρ S => u ds ρ S) { nx := Q, rt := fun _ _ => False } := q
    cases z : t d ρ S with
    | nx ρ1 S1 => rw [z] at q; exact fun j σ1 H1 p g s1 re1 => ⟨j, ρ1, S1, ds, re1, s1, r2.mono p g, q.mono p g⟩
    | rt d S' => rw [z] at q; exact q
    | exc e d S' => rw [z] at q; exact q
    | bad => rw [z] at q; exact q
theorem mgp_t {es : List Expr} {kk n : Nat} {u : List D → Env → Sto → RS} (h : MGSs X xc W es u) (hc : X.calm = true := by rfl) (hn : (assignEach es X.env).length = n := by rfl) (hst : (assignEach es X.env).findIdx? (·.1) = none := by rfl) : MGS X xc W (.Tuple es kk pos) (gpT n u) := by
  refine (pg_tup hc h hn hst).weak fun v σ H Q ⟨ι, ρ, S, d, re, s, rd, q⟩ => ?_
  unfold gpT at q
  split at q
  · rename_i ds
    split at q
    · rename_i hl
      unfold RelD at rd
      obtain ⟨a, vs, rfl, hs, rds⟩ := rd
      exact ⟨a, vs, rfl, hs, by rw [← rds.length]; exact hl, ι, ρ, S, ds, re, s, rds, q⟩
    · exact q.elim
  · exact q.elim
def RS.noR (r : RS) : RS := match r with
  | .rt _ _ => .bad
  | r => r
def sPut (t : TgS) (a : Sem) : Stm := fun ρ S => (a ρ S).thn ρ fun d S => (t d ρ S).noR
theorem ms_put {tg e : Expr} {t : TgS} {f : Sem} (he : ME X xc W e f) (hg : MGS X xc W tg t) (hs : swapsWithSole [tg] e pos.line X.env = pure false := by rfl) (hw : swappedStores [tg] e X.env = pure none := by rfl) (h1 : (assignEach [tg] X.env).map (·.2) = [assign tg X.env] := by rfl) : MS X xc W (.Assign [tg] e pos) (sPut t f) := by
  refine (ps_asg he hg hs hw h1).weak fun D σ H ⟨ι, ρ, S, r, s, h⟩ => ?_
  refine TE.sub (tM_thn r s h) ?_
  rintro v H1 ⟨ι1, d1, S2, p1, g1, re1, s1, rd1, h2⟩
  refine ⟨ι1, ρ, S2, d1, re1, s1, rd1, ?_⟩
  cases q : t d1 ρ S2 with
  | nx ρ1 S1 => rw [q] at h2; exact h2
  | rt d S' => rw [q] at h2; exact h2.elim
  | exc e d S' => rw [q] at h2; exact h2
  | bad => rw [q] at h2; exact h2
end
end Mx

namespace Mx
open PySem L2 PySem.Spec PyProof.Rows
/-! ### two names at once; name op= e; o.f op= e -/
def sPar (i j : Nat) (a : SemA) : Stm := fun ρ S => (a ρ S).thn ρ fun ds S => match ds with
  | [d, e] => .nx ((ρ.set i d).set j e) S
  | _ => .bad
def sAug (i : Nat) (op : D → D → Sto → R D) (a : Sem) : Stm := fun ρ S => match ρ.sl[i]? with
  | some (some x) => (a ρ S).thn ρ fun y S => (op x y S).thn ρ fun z S => .nx (ρ.set i z) S
  | _ => .bad
section
variable {X : Cx} {xc : XcP} {W : WX} {k : Nat} {pos : Pos}
theorem tMA_thn {K : PySem.W.Frag} {ι : List Addr} {H : Hp} {S : Sto} {ρ : Env} {σ : L2.St} {a : SemA} {g : List D → Sto → RS} {D : Ends} (r : RelE K ι H xc ρ σ) (s : Sim K ι S H) (h : PostS K xc W ι H ((a ρ S).thn ρ g) D) :
    tMA K xc W a σ H fun v H1 => ∃ ι1 d S1, ι <+: ι1 ∧ Gr H H1 ∧ RelE K ι1 H1 xc ρ σ ∧ Sim K ι1 S1 H1 ∧ RelDs K ι1 H1 d v ∧ PostS K xc W ι1 H1 (g d S1) D := by
  refine ⟨ι, ρ, S, r, s, ?_⟩
  cases q : a ρ S with
  | ok d S' =>
    rw [q] at h
    exact fun j v Hx q gx s1 rd => ⟨j, d, S', q, gx, r.mono q gx, s1, rd, PostS.mono q gx h⟩
  | exc e S' =>
    rw [q] at h
    exact fun j dd Hx q gx s1 rx => h j σ dd Hx q gx s1 (r.mono q gx) rx
  | bad => rw [q] at h; exact h
theorem ms_par {i j : Nat} {x y : Str} {a b : Expr} {fa : SemA} {px py pt : Pos} {kt k2 pt2} (hN : X.N.Nodup) (ha : MA X xc W [a, b] fa) (hi : X.N[i]? = some x := by rfl) (hj : X.N[j]? = some y := by rfl) (hij : i ≠ j := by decide)
    (hx : X.env.scope.names.lookup x = some .local := by rfl) (hy : X.env.scope.names.lookup y = some .local := by rfl) (hc : X.calm = true := by rfl)
    (hw : swappedStores [.Tuple [.Name x px, .Name y py] kt pt] (.Tuple [a, b] k2 pt2) X.env = pure (some [x, y]) := by rfl)
    (hs : swapsWithSole [.Tuple [.Name x px, .Name y py] kt pt] (.Tuple [a, b] k2 pt2) pos.line X.env = pure false := by rfl) :
    MS X xc W (.Assign [.Tuple [.Name x px, .Name y py] kt pt] (.Tuple [a, b] k2 pt2) pos) (sPar i j fa) := by
  refine (ps_par hc hN hi hj hij hx hy ha hw hs).weak fun D σ H ⟨ι, ρ, S, r, s, h⟩ => ?_
  refine TA.sub (tMA_thn r s h) ?_
  rintro v H1 ⟨ι1, d1, S2, p1, g1, re1, s1, rd, h1⟩
  split at h1
  · rename_i d e
    obtain ⟨v1, r1, rfl, rd1, rr⟩ := rd
    obtain ⟨v2, r2, rfl, rd2, rr2⟩ := rr
    have rr2 : r2 = [] := rr2
    subst rr2
    exact ⟨v1, v2, rfl, h1.give s1 ((re1.set rd1).set rd2)⟩
  · exact h1.elim
/-- an in-place operator on values -/
def IpM (X : Cx) (o : Operator) (op : D → D → Sto → R D) : Prop :=
  ∃ t, PIp X o t ∧ ∀ (ι : List Addr) (H : Hp) (S : Sto) (a b : D) (v w : V) (Q : VK) (E : XK), Sim X.K ι S H → RelD X.K ι H a v → RelD X.K ι H b w → PostD X.K ι H (op a b S) Q E → t v w H Q
def opAddI : D → D → Sto → R D := opII yes2 fun i j => .int (i + j)
theorem ip_M {o : Operator} {f : Int → Int → Int} (h : PIp X o (ipI f)) : IpM X o (opII yes2 fun i j => .int (f i j)) := ⟨_, h, fun ι H S a b v w Q E s ra rb q => by
  unfold opII at q
  split at q
  · rename_i i j
    rw [if_pos rfl] at q
    exact ⟨i, j, by simpa [RelD] using ra, by simpa [RelD] using rb, q.give s (by simp [RelD])⟩
  · exact q.elim⟩
theorem im_add : IpM X .Add opAddI := ip_M ip_add
theorem im_sub : IpM X .Sub opSub := ip_M ip_sub
theorem opthn {K : PySem.W.Frag} {ι : List Addr} {H : Hp} {ρ : Env} {σ : L2.St} {r : R D} {g : D → Sto → RS} {D : Ends} (re : RelE K ι H xc ρ σ) (h : PostS K xc W ι H (r.thn ρ g) D) :
    PostD K ι H r (fun v H1 => ∃ ι1 d S1, ι <+: ι1 ∧ Gr H H1 ∧ RelE K ι1 H1 xc ρ σ ∧ Sim K ι1 S1 H1 ∧ RelD K ι1 H1 d v ∧ PostS K xc W ι1 H1 (g d S1) D) (WE W σ) := by
  cases r with
  | ok d S' => exact fun j v Hx q gx s1 rd => ⟨j, d, S', q, gx, re.mono q gx, s1, rd, PostS.mono q gx h⟩
  | exc e S' => exact fun j dd Hx q gx s1 rx => h j σ dd Hx q gx s1 (re.mono q gx) rx
  | bad => exact h
theorem ms_aug {i : Nat} {x : Str} {o : Operator} {op : D → D → Sto → R D} {e : Expr} {f : Sem} {pos' : Pos} (ho : IpM X o op) (h : ME X xc W e f) (hN : X.N.Nodup) (hi : X.N[i]? = some x := by rfl) (hx : Loc X.env.scope x := by first | exact Or.inl rfl | exact Or.inr rfl)
    (hf : X.fn x = true ∨ X.env.scope.names.lookup x = some .local := by first | exact .inl rfl | exact .inr rfl | assumption) : MS X xc W (.AugAssign (.Name x pos') o e pos) (sAug i op f) := by
  obtain ⟨t, h1, h2⟩ := ho
  refine (ps_aug hN hi hx h h1 hf).weak fun D σ H ⟨ι, ρ, S, r, s, q⟩ => ?_
  unfold sAug at q
  split at q
  · rename_i d hd
    obtain ⟨v, hv, rv⟩ := r.sl i d hd
    refine ⟨v, hv, TE.sub (tM_thn r s q) ?_⟩
    rintro y H1 ⟨ι1, d1, S1, p1, g1, re1, s1, rd1, q1⟩
    refine h2 ι1 H1 S1 d d1 v y _ (WE W σ) s1 (rv.mono p1 g1) rd1 ((opthn re1 q1).imp ?_)
    rintro z H2 ⟨ι2, d2, S2, p2, g2, re2, s2, rd2, q2⟩
    exact q2.give s2 (re2.set rd2)
  · exact q.elim
/-! ### slices -/
def cutD (xs : List D) (lo hi : Option Int) : List D := (xs.drop (HT.sIx xs.length 0 lo)).take (HT.sIx xs.length xs.length hi - HT.sIx xs.length 0 lo)
def slD (a : D) (lo hi : Option Int) (S : Sto) : R D := match a with
  | .tup ds => .ok (.tup (cutD ds lo hi)) S
  | .ref n => (match S[n]? with
    | some (.lst ds) => .ok (.ref S.length) (S ++ [.lst (cutD ds lo hi)])
    | _ => .bad)
  | _ => .bad
abbrev SemO := Env → Sto → R (Option Int)
def oNone : SemO := fun _ S => .ok none S
def oSome (a : Sem) : SemO := fun ρ S => (a ρ S).bind fun x S => match x with
  | .int i => .ok (some i) S
  | _ => .bad
def mSlice (a : Sem) (lo hi : SemO) : Sem := fun ρ S => (a ρ S).bind fun x S => (lo ρ S).bind fun l S => (hi ρ S).bind fun h S => slD x l h S
def tMO (K : PySem.W.Frag) (xc : XcP) (W : WX) (f : SemO) : TO := fun σ H Q => ∃ ι ρ S, RelE K ι H xc ρ σ ∧ Sim K ι S H ∧ Post K (fun _ _ a b => a = b) ι H (f ρ S) Q (WE W σ)
theorem _root_.L2.PO.weak {e : Option Expr} {t t' : TO} (h : PO X e t) (w : ∀ σ H Q, t' σ H Q → t σ H Q) : PO X e t' := ⟨fun pins s σ H Q I hw => h.run pins s σ H Q I (w _ _ _ hw)⟩
abbrev MO (X : Cx) (xc : XcP) (W : WX) (e : Option Expr) (f : SemO) : Prop := PO X e (tMO X.K xc W f)
theorem mo_none : MO X xc W none oNone := po_none.weak fun σ H Q ⟨ι, ρ, S, r, s, h⟩ => h.give s rfl
theorem mo_some {e : Expr} {f : Sem} (h : ME X xc W e f) : MO X xc W (some e) (oSome f) := by
  refine (po_some h).weak fun σ H Q ⟨ι, ρ, S, r, s, q⟩ => ?_
  refine TE.sub (tM_bind r s q) ?_
  rintro v H1 ⟨ι1, d1, S1, p1, g1, re1, s1, rd, h1⟩
  split at h1
  · rename_i i
    exact ⟨i, by simpa [RelD] using rd, h1.give s1 rfl⟩
  · exact h1.elim
theorem tMO_bind {K : PySem.W.Frag} {ι : List Addr} {H : Hp} {S : Sto} {ρ : Env} {σ : L2.St} {α' β' : Type} {Rel' : List Addr → Hp → α' → β' → Prop} {a : SemO} {g : Option Int → Sto → R α'} {Q : β' → Hp → Prop} (r : RelE K ι H xc ρ σ) (s : Sim K ι S H) (h : Post K Rel' ι H ((a ρ S).bind g) Q (WE W σ)) :
    tMO K xc W a σ H fun v H1 => ∃ ι1 S1, ι <+: ι1 ∧ Gr H H1 ∧ RelE K ι1 H1 xc ρ σ ∧ Sim K ι1 S1 H1 ∧ Post K Rel' ι1 H1 (g v S1) Q (WE W σ) :=
  ⟨ι, ρ, S, r, s, (post_bind h).imp fun v H1 ⟨j, d, S1, p, g, s1, rd, q⟩ => by cases rd; exact ⟨j, S1, p, g, r.mono p g, s1, q⟩⟩
theorem TO.sub {K : PySem.W.Frag} {f : SemO} {σ : L2.St} {H : Hp} {Q Q' : Option Int → Hp → Prop} (h : tMO K xc W f σ H Q) (w : ∀ v H', Q v H' → Q' v H') : tMO K xc W f σ H Q' := by
  obtain ⟨ι, ρ, S, r, s, h⟩ := h
  exact ⟨ι, ρ, S, r, s, h.imp w⟩
theorem RelDs.take {K : PySem.W.Frag} {ι : List Addr} {H : Hp} : ∀ (n : Nat) {ds : List D} {vs : List V}, RelDs K ι H ds vs → RelDs K ι H (ds.take n) (vs.take n)
  | 0, ds, vs, _ => rfl
  | n + 1, [], vs, r => by have r : vs = [] := r; subst r; rfl
  | n + 1, d :: ds, vs, r => by obtain ⟨v, r', rfl, r1, r2⟩ := r; exact ⟨v, _, rfl, r1, RelDs.take n r2⟩
theorem RelDs.drop {K : PySem.W.Frag} {ι : List Addr} {H : Hp} : ∀ (n : Nat) {ds : List D} {vs : List V}, RelDs K ι H ds vs → RelDs K ι H (ds.drop n) (vs.drop n)
  | 0, ds, vs, r => r
  | n + 1, [], vs, r => by have r : vs = [] := r; subst r; rfl
  | n + 1, d :: ds, vs, r => by obtain ⟨v, r', rfl, r1, r2⟩ := r; exact RelDs.drop n r2
theorem RelDs.cut {K : PySem.W.Frag} {ι : List Addr} {H : Hp} {ds : List D} {vs : List V} {lo hi : Option Int} (r : RelDs K ι H ds vs) : RelDs K ι H (cutD ds lo hi) (cutV vs lo hi) := by
  unfold cutD cutV
  rw [r.length]
  exact (r.drop _).take _
theorem me_slice {e : Expr} {lo hi : Option Expr} {fa : Sem} {fl fh : SemO} {p2 : Pos} (ha : ME X xc W e fa) (hl : MO X xc W lo fl) (hh : MO X xc W hi fh) : ME X xc W (.Subscript e (.Slice lo hi none p2) pos) (mSlice fa fl fh) := by
  refine (pe_slice (sl_tupA.or sl_list) ha hl hh).weak fun σ H Q ⟨ι, ρ, S, r, s, q⟩ => ?_
  refine TE.sub (tM_bind r s q) ?_
  rintro v H1 ⟨ι1, d1, S1, p1, g1, re1, s1, rd, h1⟩
  refine TO.sub (tMO_bind re1 s1 h1) ?_
  rintro l H2 ⟨ι2, S2, p2, g2, re2, s2, h2⟩
  refine TO.sub (tMO_bind re2 s2 h2) ?_
  rintro h H3 ⟨ι3, S3, p3, g3, re3, s3, h3⟩
  replace rd := rd.mono (p2.trans p3) (g2.trans g3)
  unfold slD at h3
  split at h3
  · rename_i ds
    have rd' := rd
    unfold RelD at rd
    obtain ⟨a, vs, rfl, ht, rs⟩ := rd
    refine .inl ⟨a, vs, rfl, ht, fun hw => ?_, fun _ p hp => PostD.giveT s3 hp rs.cut h3⟩
    have e1 : cutD ds l h = ds := by
      unfold cutD
      rw [rs.length, hw.1, hw.2, List.drop_zero, Nat.sub_zero, ← rs.length, List.take_length]
    rw [e1] at h3
    exact h3.give s3 rd'
  · rename_i n
    obtain ⟨a, ha, rfl⟩ := rd.ref_of
    split at h3
    · rename_i ds hS
      obtain ⟨vs, hH, rs⟩ := s3.is ha hS
      exact .inr ⟨a, vs, rfl, SqL.of hH, fun p hp => PostD.giveL s3 hp rs.cut h3⟩
    · exact h3.elim
  · exact h3.elim
/-! ### len, int, list, tuple, abs .. -/
def fLen : Fn := fun ds S => match ds with
  | [.str x] => if x.length ≤ sizeLine then .ok (.int x.length) S else .bad
  | [.tup es] => .ok (.int es.length) S
  | [.scr ns] => .ok (.int ns.length) S
  | [.ref n] => (match S[n]? with
    | some (.lst es) => .ok (.int es.length) S
    | _ => .bad)
  | _ => .bad
theorem RelDs.one {K : PySem.W.Frag} {ι : List Addr} {H : Hp} {d : D} {vs : List V} (r : RelDs K ι H [d] vs) : ∃ v, vs = [v] ∧ RelD K ι H d v := by
  obtain ⟨v, r', rfl, r1, r2⟩ := r
  have r2 : r' = [] := r2
  subst r2
  exact ⟨v, rfl, r1⟩
theorem RelDs.two {K : PySem.W.Frag} {ι : List Addr} {H : Hp} {d e : D} {vs : List V} (r : RelDs K ι H [d, e] vs) : ∃ v w, vs = [v, w] ∧ RelD K ι H d v ∧ RelD K ι H e w := by
  obtain ⟨v, r', rfl, r1, r2⟩ := r
  obtain ⟨w, rfl, r3⟩ := r2.one
  exact ⟨v, w, rfl, r1, r3⟩
theorem scr_seq {K : PySem.W.Frag} {ι : List Addr} {H : Hp} {ns : List Int} {v : V} (r : RelD K ι H (.scr ns) v) : ∃ a, v = .ref a ∧ SqL K H a (ns.map V.int) := by
  unfold RelD at r
  obtain ⟨a, rfl, q⟩ := r
  refine ⟨a, rfl, ?_⟩
  rcases q with ⟨o, q⟩ | q
  · exact .inl (.inr ⟨o, q⟩)
  · rcases q with (q | ⟨o, q⟩) | q
    · cases q
    · cases q
    · exact .inr q
theorem cm_len : CallM X (.builtin "len") fLen := ⟨_, call_len, fun ι H S ds vs Q E s rd h => by
  unfold fLen at h
  split at h
  · rename_i x
    obtain ⟨v, rfl, r⟩ := rd.one
    have e : v = .str x := by simpa [RelD] using r
    subst e
    split at h
    · rename_i hl
      exact ⟨_, x.length, rfl, ⟨hl, rfl⟩, h.give s (by simp [RelD])⟩
    · exact h.elim
  · rename_i es
    obtain ⟨v, rfl, r⟩ := rd.one
    unfold RelD at r
    obtain ⟨a, ws, rfl, ht, rs⟩ := r
    exact ⟨_, ws.length, rfl, .inr ⟨ws, ht, rfl⟩, h.give s (by rw [rs.length]; simp [RelD])⟩
  · rename_i ns
    obtain ⟨v, rfl, r⟩ := rd.one
    obtain ⟨a, rfl, hq⟩ := scr_seq r
    exact ⟨_, ns.length, rfl, .inl ⟨_, hq, by simp⟩, h.give s (by simp [RelD])⟩
  · rename_i n
    obtain ⟨v, rfl, r⟩ := rd.one
    obtain ⟨a, ha, rfl⟩ := r.ref_of
    split at h
    · rename_i es hS
      obtain ⟨ws, hH, rs⟩ := s.is ha hS
      exact ⟨_, ws.length, rfl, .inl ⟨ws, SqL.of hH, rfl⟩, h.give s (by rw [rs.length]; simp [RelD])⟩
    · exact h.elim
  · exact h.elim⟩
def fInt : Fn := fun ds S => match ds with
  | [.int i] => .ok (.int i) S
  | [.bl b] => .ok (.int (if b then 1 else 0)) S
  | [.str x] => (match PySem.intText? x with
    | some n => if x.length ≤ 640 then .ok (.int n) S else .bad
    | none => .bad)
  | _ => .bad
theorem cm_int : CallM X (.type "int") fInt := ⟨_, CallR.or call_int1 call_int_str, fun ι H S ds vs Q E s rd h => by
  unfold fInt at h
  split at h
  · rename_i i
    obtain ⟨v, rfl, r⟩ := rd.one
    have e : v = .int i := by simpa [RelD] using r
    subst e
    exact .inl (.inl ⟨i, rfl, h.give s (by simp [RelD])⟩)
  · rename_i b
    obtain ⟨v, rfl, r⟩ := rd.one
    have e : v = .bl b := by simpa [RelD] using r
    subst e
    exact .inl (.inr ⟨b, rfl, h.give s (by simp [RelD])⟩)
  · rename_i x
    obtain ⟨v, rfl, r⟩ := rd.one
    have e : v = .str x := by simpa [RelD] using r
    subst e
    split at h
    · rename_i n hn
      split at h
      · rename_i hl
        exact .inr ⟨x, n, rfl, hn, hl, h.give s (by simp [RelD])⟩
      · exact h.elim
    · exact h.elim
  · exact h.elim⟩
/-- list(x) -/
def fList : Fn := fun ds S => match ds with
  | [.tup es] => .ok (.ref S.length) (S ++ [.lst es])
  | [.scr ns] => .ok (.ref S.length) (S ++ [.lst (ns.map D.int)])
  | [.ref n] => (match S[n]? with
    | some (.lst es) => .ok (.ref S.length) (S ++ [.lst es])
    | _ => .bad)
  | _ => .bad
theorem rel_ints {K : PySem.W.Frag} {ι : List Addr} {H : Hp} : ∀ ns : List Int, RelDs K ι H (ns.map D.int) (ns.map V.int)
  | [] => rfl
  | n :: ns => ⟨.int n, ns.map V.int, rfl, by simp [RelD], rel_ints ns⟩
theorem cm_list : CallM X (.type "list") fList := ⟨_, call_list_of, fun ι H S ds vs Q E s rd h => by
  unfold fList at h
  split at h
  · rename_i es
    obtain ⟨v, rfl, r⟩ := rd.one
    unfold RelD at r
    obtain ⟨a, ws, rfl, ht, rs⟩ := r
    exact ⟨a, ws, rfl, .inr ht, fun l hl => PostD.giveL s hl rs h⟩
  · rename_i ns
    obtain ⟨v, rfl, r⟩ := rd.one
    obtain ⟨a, rfl, hq⟩ := scr_seq r
    exact ⟨a, _, rfl, .inl hq, fun l hl => PostD.giveL s hl (rel_ints ns) h⟩
  · rename_i n
    obtain ⟨v, rfl, r⟩ := rd.one
    obtain ⟨a, ha, rfl⟩ := r.ref_of
    split at h
    · rename_i es hS
      obtain ⟨ws, hH, rs⟩ := s.is ha hS
      exact ⟨a, ws, rfl, .inl (SqL.of hH), fun l hl => PostD.giveL s hl rs h⟩
    · exact h.elim
  · exact h.elim⟩
/-- tuple(x) -/
def fTuple : Fn := fun ds S => match ds with
  | [.tup es] => .ok (.tup es) S
  | [.ref n] => (match S[n]? with
    | some (.lst es) => .ok (.tup es) S
    | _ => .bad)
  | _ => .bad
theorem cm_tuple : CallM X (.type "tuple") fTuple := ⟨_, call_tuple_of, fun ι H S ds vs Q E s rd h => by
  unfold fTuple at h
  split at h
  · rename_i es
    obtain ⟨v, rfl, r⟩ := rd.one
    have r' := r
    unfold RelD at r
    obtain ⟨a, ws, rfl, ht, rs⟩ := r
    exact ⟨a, ws, rfl, .inr ⟨ht, h.give s r'⟩⟩
  · rename_i n
    obtain ⟨v, rfl, r⟩ := rd.one
    obtain ⟨a, ha, rfl⟩ := r.ref_of
    split at h
    · rename_i es hS
      obtain ⟨ws, hH, rs⟩ := s.is ha hS
      exact ⟨a, ws, rfl, .inl ⟨SqL.of hH, fun l hl => PostD.giveT s hl rs h⟩⟩
    · exact h.elim
  · exact h.elim⟩
end
end Mx

set_option maxHeartbeats 1000000
namespace Mx
open PySem L2 PySem.Spec PyProof.Rows NdefX
/-- what the written part says of an own exception class at C whose __init__ at fI says super().__init__(..) -/
structure XcK (P : Program) (K : PySem.W.Frag) (C fI cc cda : Addr) : Prop where
  O : OexC K C
  cell : ∃ cl cld csl, K.lookup cc = some ⟨cl, cld, .cell (some (.ref C)), csl⟩
  code : ∃ ccl cdd vs ccs file tf, K.lookup cda = some ⟨ccl, cdd, .fields vs, ccs⟩ ∧ vs[2]? = some (.str file tf) ∧ ((P.main.file : Str) == file) = true
  cls : ∃ cd, PySem.W.clsIn K C = some cd ∧ PySem.W.alongIn K "__init__" ((cd.mro.dropWhile (· != .ref C)).drop 1) = some (some (.builtin "ValueError.__init__"))
  sub : PySem.W.mroIn K C (.ref C) = some true
  opq : PySem.W.nsIn K PySem.cStatics "thirdparty.any" = some none
  isV : PySem.W.subIn K (.ref C) (.type "ValueError") = some true
  fnt : PySem.W.typeIn K (.ref fI) = some (.type "function")
section
variable {X : Cx} {pins : List (Addr × Obj)} {σ : L2.St} {H : Hp} {s : Shared}
/-- a pin more -/
theorem pin_more (I : Inv X pins σ H s) {u : Addr} {o : Obj} (h1 : s.heap.get? u = some o) (h2 : H u = none) (h3 : u ≠ X.env.locals) (h4 : u ∉ X.fs) (h5 : ∀ v, o.data ≠ .cell v) : Inv X ((u, o) :: pins) σ H s :=
  I.pins_of fun p hp => by
    rcases List.mem_cons.mp hp with rfl | hp
    · exact ⟨h1, h2, h3, h4, h5⟩
    · exact I.pin p (List.mem_append_right _ hp)
theorem pin_less {p : Addr × Obj} (I : Inv X (p :: pins) σ H s) : Inv X pins σ H s := I.pins_of fun q hq => I.pin q (List.mem_append_right _ (List.mem_cons_of_mem _ hq))
theorem wrapped_call {A : Around} {E : Value → Shared → Prop} {u a C : Addr} {us : List Value} {Q : Value → Shared → Prop} (T : OexC X.K C) (I : Inv X pins σ H s) (ea : H a = some (exo a C none)) (hu : s.heap.get? u = some (PySem.W.kxs_mw "ValueError.__init__" a)) (hl : us.length ≤ sizeLine)
    (h : ∀ s', Inv X pins σ H s' → Q .none s') : wpAny (model X.prog X.w) A (call (.ref u) us) Q E s := by
  obtain ⟨nm, q, N, bs, bm, sn, sub, ab, col, dd, k0, k1, k2, k3, k5, hC, hbm⟩ := T.cls
  obtain ⟨t1, ho⟩ := exo_at I.hok ea
  have FB := F.excBase_ValueError
  have hC' := I.kIn _ _ hC
  have fin : ∀ h', (∀ b o, b ≠ a → s.heap.get? b = some o → h'.get? b = some o) → h'.get? a = some (PySem.W.excObj C s.heap.objs.size none .none) → h'.get? s.heap.objs.size = some (PySem.W.excTup us) → Q .none { s with heap := h' } := fun h' k hx _ => by
    have J := I.write (t' := s.toks) (x := a) (e := a) (o := exo a C none) (by rw [ea]; exact True.intro) (.inl rfl) k ⟨_, hx⟩ (exo_ok hx)
    have eu : upd H a (exo a C none) = H := by
      funext b
      by_cases hb : b = a
      · rw [hb, upd_same, ea]
      · rw [upd_ne hb]
    rw [eu] at J
    exact h _ J
  obtain ⟨hh, g, d, tk, os⟩ := s
  refine wpAny_call (codeAny_of_tree ?_)
  show wpAny _ A.in1 (callAny (.ref u) ⟨us, []⟩) _ _ _
  simp only [callAny]
  refine wpAny_bind (wpAny_load hu ?_)
  simp only [PySem.W.kxs_mw, show (Value.type "method-wrapper" == Value.type "method" || Value.type "method-wrapper" == Value.type "builtin_function_or_method" || Value.type "method-wrapper" == Value.type "method-wrapper") = true by decide, if_true]
  refine PySem.W.KFB.if_so (by decide) ?_
  refine wpAny_bind (PySem.W.check_bound_init FB.toExcCallFacts hC' ho rfl ?_)
  refine wpAny_bind (wpAny_pure (wpAny_pure ?_))
  refine ⟨plainId_quiet FB.init.plain _, codeAny_builtin FB.initEntry ?_⟩
  exact PySem.W.exc_init_tree (cls := .ref C) (t0 := t1) (dv := none) (c2 := .none) (c3 := .none) (b4 := .bool false) ho hl fin
/-- super().__init__(e), the first statement of an own exception's __init__ -/
theorem super_stmt {body : List Stmt} {xn : Str} {e : Expr} {te : TE} {p0 p1 p2 p3 p4 : Pos} {C fI cc cda a : Addr} {fd : FuncData} {oc : Value} {od : Option Addr} {osl : Array (Option Value)} {ar : Arg} {Qn : L2.St → Hp → Prop} {pl : PySem.Sem Bool}
    (T : XcK X.prog X.K C fI cc cda) (I : Inv X pins σ H s) (he : PE X e te) (ea : H a = some (exo a C none))
    (h0 : X.N[0]? = some xn) (s0 : σ[0]? = some (some (.ref a))) (hka : X.env.scope.names.lookup xn = some .local)
    (hf : X.K.lookup fI = some ⟨oc, od, .func fd, osl⟩) (hfu : X.env.func = some fI) (hp : (fd.params.posonlyargs ++ fd.params.args).head? = some ar) (har : ar.arg = xn) (hco : X.env.code = .ref cda)
    (hce : X.env.cells.lookup ("__class__" : Str) = some cc) (hks : X.env.scope.names.lookup ("super" : Str) = some .globalImplicit) (hkc : X.env.scope.names.lookup ("__class__" : Str) = some .free)
    (hsup : X.mg "super" = none) (htop : (X.prog.main.scope.names.lookup ("super" : Str)).isSome = false)
    (hst : starEach [e] X.env = (false, eval e X.env) :: starEach [] X.env) (hsw : swapsWith (.Call (.Attribute (.Call (.Name "super" p0) [] [] p1) "__init__" p2) [e] [] p3) none p4.line X.env = pure false)
    (hev : eval (.Call (.Attribute (.Call (.Name "super" p0) [] [] p1) "__init__" p2) [e] [] p3) X.env = (attributeBase (.Call (.Name "super" p0) [] [] p1) "__init__" X.env (eval (.Call (.Name "super" p0) [] [] p1) X.env) >>= fun ov =>
      standAt p2.atName >>= fun _ => holding [ov] (getMethod ov "__init__" pl) >>= fun q => callWith p3 q.1 q.2 (backTo p3 (starEach [e] X.env)) []))
    (hr : ∀ Q' : VK, (∀ v H1, H1 a = some (exo a C none) → Qn σ H1 → Q' v H1) → te σ H Q') :
    PySem.wpAt (model X.prog X.w) X.A (.func body X.env) (exec (.Expr (.Call (.Attribute (.Call (.Name "super" p0) [] [] p1) "__init__" p2) [e] [] p3) p4) X.env) (fun f s' => f = .next ∧ ∃ H1, Inv X pins σ H1 s' ∧ Qn σ H1) X.xe s := by
  obtain ⟨nm, q, N, bs, bm, sn, sub, ab, col, dd, k0, k1, k2, k3, k5, hC, hbm⟩ := T.O.cls
  obtain ⟨cl, cld, csl, hcell⟩ := T.cell
  obtain ⟨ccl, cdd, vs, ccs, file, tf, hcode, hvs, hfile⟩ := T.code
  obtain ⟨cd, hcd, halong⟩ := T.cls
  obtain ⟨t1, ho⟩ := exo_at I.hok ea
  have KX := I.kIn
  have hCd : ∃ oD cdD, s.heap.get? C = some oD ∧ oD.data = .cls cdD := ⟨_, _, KX _ _ hC, rfl⟩
  obtain ⟨oD, cdD, hD1, hD2⟩ := hCd
  obtain ⟨m, hns, hloc⟩ := I.loc
  obtain ⟨u, hu, hlook⟩ := hloc 0 xn (.ref a) h0 s0 (.inl hka)
  obtain rfl : u = Value.ref a := hu
  have hm : m xn = some (.ref a) := by
    rcases hlook with ⟨_, z⟩ | ⟨z, _⟩
    · exact z
    · have hk : X.env.kindOf xn = some .local := hka
      rcases z with z | z <;> (rw [hk] at z; cases z)
  obtain ⟨mb, hmb, hbb⟩ := I.mod.blt
  refine ks_wpAt_Expr_any (ks_wpAt_mono (Q := fun _ s' => ∃ H1, Inv X pins σ H1 s' ∧ Qn σ H1) ?_ (fun _ s' z => ⟨rfl, z⟩) fun _ _ z => z) I.quiet hsw
  refine ks_wpAt_MethodCall ?_ hev
  refine ks_wpAt_super_base hks hkc rfl hfu (KX _ _ hf) rfl hp hco (KX _ _ hcode) rfl hvs hfile htop ?_
  refine PySem.W.ks_loadName_global I.ok.kind hks (Calls.loadGlobal_builtin (by rw [I.ok.glob]; exact I.mod.glob.keeps I.bk) hsup (by rw [I.ok.blt]; exact hmb.keeps I.bk) ((hbb _ (by decide)).trans (by decide +kernel : bootBuiltins "super" = some (.type "super"))) ⟨rfl, ?_⟩)
  refine wpAny_loadName_free I.ok.kind hkc hce ⟨_, KX _ _ hcell, rfl⟩ ?_
  rw [har]
  refine wpAny_loadName_local I.ok.kind hka hns hm ?_
  have hkeep : ∀ b o, s.heap.get? b = some o → s.heap.get? b = some o := fun _ _ z => z
  obtain ⟨hh, g, dr, tk, os⟩ := s
  refine ks_wpAny_isType_cls hD1 hD2 ⟨rfl, ?_⟩
  have hnc : ∀ c, ({ cls := .ref C, dict := none, data := .fields #[.ref t1, .none, .none, .none, .bool false, .none] } : Obj).data ≠ .cls c := fun c z => by cases z
  refine ks_wpAny_call_super hD1 hD2 ho rfl hnc (PySem.W.looks_mroIn KX T.sub) (fun h1 e1 kp1 => ?_)
  have hsz1 : hh.objs.size < h1.objs.size := Heap.lt_size e1
  have I1 : Inv X pins σ H ⟨h1, g, dr, tk, os⟩ := I.kept (t' := tk) kp1
  have KX1 := I1.kIn
  have ho1 := kp1 _ _ ho
  have hI1 : PySem.W.Looks (model X.prog X.w) h1 (isInstance (.ref a) (.type "ValueError")) true :=
    (show PySem.W.InstAt h1 a { cls := .ref C, dict := none, data := .fields #[.ref t1, .none, .none, .none, .bool false, .none] } C none from ⟨ho1, rfl, rfl, trivial⟩).type.andThen (PySem.W.looks_subIn KX1 T.isV)
  have hxC : a ≠ C := fun z => by
    subst z
    have z2 := kp1 _ _ (KX _ _ hC)
    rw [ho1] at z2
    cases z2
  refine PySem.W.kxs_getMethod PySem.W.kxs_ValueError e1 (PySem.W.looks_opaque KX1 T.opq) (l₀ := cd.mro) ?_ rfl KX1 halong hI1 hxC (by decide) ?_
  · exact fun A Q E s k q => wpAny_bind ((PySem.W.looks_clsIn KX1 hcd) A _ E s k (wpAny_pure q))
  have hu2 : (h1.push (PySem.W.kxs_mw "ValueError.__init__" a)).get? h1.objs.size = some (PySem.W.kxs_mw "ValueError.__init__" a) := Heap.get?_push_at rfl rfl
  have I2 : Inv X pins σ H ⟨h1.push (PySem.W.kxs_mw "ValueError.__init__" a), g, dr, tk + 1, os⟩ := I1.kept (t' := tk + 1) fun b o z => Heap.get?_push_of_some _ z
  have hfr : H h1.objs.size = none := I1.hok.fresh (Nat.le_refl _)
  have I3 : Inv X ((h1.objs.size, PySem.W.kxs_mw "ValueError.__init__" a) :: pins) σ H ⟨h1.push (PySem.W.kxs_mw "ValueError.__init__" a), g, dr, tk + 1, os⟩ :=
    pin_more I2 hu2 hfr (Nat.ne_of_gt I1.lt) (I1.nofs (Nat.le_refl _)) fun v z => by cases z
  refine PySem.W.kxs_callWith (i := "ValueError.__init__") (x := a) (by rw [hst]; rfl) ?_
  have key : wpAny (model X.prog X.w) X.A (spliced (backTo p3 (starEach [e] X.env))) (fun us s₁ => PySem.W.KxsAt "ValueError.__init__" h1.objs.size a s₁.heap ∧ wpAny (model X.prog X.w) X.A (call (.ref h1.objs.size) us) (fun _ s' => ∃ H1, Inv X pins σ H1 s' ∧ Qn σ H1) X.xe s₁) X.xe
      { heap := h1.push (PySem.W.kxs_mw "ValueError.__init__" a), gens := g, drawn := dr, toks := tk + 1, os := os } := by
    refine thn ((pa_cons he pa_nil hst).run p3 _ _ σ H (fun vs H1 => vs.length = 1 ∧ H1 a = some (exo a C none) ∧ Qn σ H1) I3 (hr _ fun v H1 z1 z2 => ⟨rfl, z1, z2⟩)) fun us s1 ⟨vs, H1, I4, r4, hl, ea1, q1⟩ => ?_
    have hu4 := (I4.pin (h1.objs.size, PySem.W.kxs_mw "ValueError.__init__" a) (List.mem_append_right _ List.mem_cons_self)).1
    refine ⟨hu4, ?_⟩
    refine wrapped_call T.O I4 ea1 hu4 (by rw [← r4.length, hl]; decide) fun s' J => ⟨H1, pin_less J, q1⟩
  rw [hst] at key ⊢
  exact Calls.evalArgs_plain key
end
section
variable {CX : CXT} {P : Program} {w : World} {K : PySem.W.Frag} {mg : Str → Option Value} {base : Heap} {N ps : List Str} {C fI cc cda : Addr} {name qual : Str} {params : Arguments} {rest : List Stmt} {scope : Scope} {kV doc pm ct oc : Value} {an od : Option Addr} {osl : Array (Option Value)} {k : Nat}
abbrev nfX (name qual : Str) (params : Arguments) (body : List Stmt) (scope : Scope) (cc cda : Addr) : NF := ⟨name, qual, params, body, scope, [("__class__", cc)], cda⟩
def spX (C : Addr) (N ps : List Str) (te : TE) (tr : TS) : Sp := fun vs H Q _ => ∃ a ws, vs = .ref a :: ws ∧ vs.length = ps.length ∧ H a = some (exo a C none) ∧ (∀ Q' : VK, (∀ v, Q' v H) → te (startF N vs [some (.ref C)]) H Q') ∧
  tr { nx := fun _ H' => Q .non H', rt := Q } (startF N vs [some (.ref C)]) H
/-- the __init__ of an own exception class -/
theorem fn_exc {xn : Str} {e : Expr} {te : TE} {tr : TS} {p0 p1 p2 p3 p4 : Pos} {ar : Arg} {pl : PySem.Sem Bool} (T : XcK P K C fI cc cda)
    (lk : K.lookup fI = some ⟨oc, od, .func (PySem.W.fnX name qual params (.Expr (.Call (.Attribute (.Call (.Name "super" p0) [] [] p1) "__init__" p2) [e] [] p3) p4 :: rest) scope [("__class__", cc)] .none kV doc pm an (.ref cda) ct), osl⟩)
    (hcd : PySem.W.codeIn K (.ref cda) qual = true) (S : NScope N ps ["__class__"] scope) (h0 : N[0]? = some xn) (hka : scope.names.lookup xn = some .local) (hp : (params.posonlyargs ++ params.args).head? = some ar) (har : ar.arg = xn)
    (hks : scope.names.lookup ("super" : Str) = some .globalImplicit) (hkc : scope.names.lookup ("__class__" : Str) = some .free) (hsup : mg "super" = none) (htop : (P.main.scope.names.lookup ("super" : Str)).isSome = false)
    (hst : ∀ env : PySem.Env, starEach [e] env = (false, eval e env) :: starEach [] env)
    (hev : ∀ L : Addr, eval (.Call (.Attribute (.Call (.Name "super" p0) [] [] p1) "__init__" p2) [e] [] p3) (PySem.W.envX qual scope L fI (.ref cda) [("__class__", cc)]) = (attributeBase (.Call (.Name "super" p0) [] [] p1) "__init__" (PySem.W.envX qual scope L fI (.ref cda) [("__class__", cc)]) (eval (.Call (.Name "super" p0) [] [] p1) (PySem.W.envX qual scope L fI (.ref cda) [("__class__", cc)])) >>= fun ov =>
      standAt p2.atName >>= fun _ => holding [ov] (getMethod ov "__init__" pl) >>= fun q => callWith p3 q.1 q.2 (backTo p3 (starEach [e] (PySem.W.envX qual scope L fI (.ref cda) [("__class__", cc)]))) []))
    (he : ∀ (A : Around) (outer : List PySem.Env) (s : Shared) (H : Hp) (E : XK), PE (ncx CX P w K mg base N (nfX name qual params (.Expr (.Call (.Attribute (.Call (.Name "super" p0) [] [] p1) "__init__" p2) [e] [] p3) p4 :: rest) scope cc cda) fI A outer s H E) e te)
    (hr : ∀ (A : Around) (outer : List PySem.Env) (s : Shared) (H : Hp) (E : XK), PSs (ncx CX P w K mg base N (nfX name qual params (.Expr (.Call (.Attribute (.Call (.Name "super" p0) [] [] p1) "__init__" p2) [e] [] p3) p4 :: rest) scope cc cda) fI A outer s H E) rest tr) :
    FnOk P w K mg base CX (k + 1) fI (PySem.W.fnX name qual params (.Expr (.Call (.Attribute (.Call (.Name "super" p0) [] [] p1) "__init__" p2) [e] [] p3) p4 :: rest) scope [("__class__", cc)] .none kV doc pm an (.ref cda) ct) ps (spX C N ps te tr) := by
  refine ⟨fun vs H Q E ⟨_, _, _, z, _⟩ => z, fun A outer s H args us vs Q E hroom e0 hb r hsp => ?_⟩
  obtain ⟨a, ws, rfl, hl, ea, h1, h2⟩ := hsp
  have KX : K.In s.heap := e0.mod.kin.keeps fun b o e => (e0.bs b o e).1
  have lim : s.heap.NoLimit := e0.mod.nolimit.keeps fun b o e => (e0.bs b o e).1
  obtain ⟨cl, cld, csl, hcell⟩ := T.cell
  have hcn : H cc = none := (e0.bs _ _ (e0.mod.kin _ _ hcell)).2
  refine ks_codeAny_call_defAt hroom.depth (KX _ _ lk) rfl lim (PySem.W.codeRec_of KX hcd) rfl hb S.nocell (fun ⟨n, _⟩ hy => S.par n (List.of_mem_zip hy).1) (fun h₁ hns kp => ?_) S.co S.gen S.kind
  have hC : CellsAt [(("__class__" : Str), cc)] ["__class__"] [some (V.ref C)] s.heap H := by
    refine ⟨rfl, fun y c e => ?_, fun x y c e1 e2 => ?_, fun i y hi => ?_⟩
    · simp only [List.lookup_cons, List.lookup_nil] at e
      split at e
      · cases e
        exact ⟨hcn, _, _, KX _ _ hcell, rfl⟩
      · cases e
    · simp only [List.lookup_cons, List.lookup_nil] at e1 e2
      split at e1
      · rename_i q1
        split at e2
        · rename_i q2
          exact (beq_iff_eq.mp q1).trans (beq_iff_eq.mp q2).symm
        · cases e2
      · cases e1
    · cases i with
      | succ i => simp at hi
      | zero =>
        simp at hi
        subst hi
        refine ⟨cc, by simp, fun v hv => ?_⟩
        simp at hv
        subst hv
        exact ⟨.ref C, rfl, _, KX _ _ hcell, rfl⟩
  have I := inv_startN (CX := CX) (F := nfX name qual params (.Expr (.Call (.Attribute (.Call (.Name "super" p0) [] [] p1) "__init__" p2) [e] [] p3) p4 :: rest) scope cc cda) (f := fI) (E := E) (tk := s.toks + (ps.zip us).length) S hroom.hd e0 hl r hC hns kp
  have s0 : (startF N (V.ref a :: ws) [some (V.ref C)])[0]? = some (some (.ref a)) := rfl
  refine ks_wpAt_execs_cons (ks_wpAt_mono (super_stmt (Qn := fun σ H1 => H1 = H ∧ σ = startF N (V.ref a :: ws) [some (V.ref C)]) T I (he A outer s H E) ea h0 s0 hka lk rfl hp har rfl (by rfl) hks hkc hsup htop (hst _) (by rfl) (hev _) ?_) (fun f s' hf => ?_) fun e s' z => z)
  · exact fun Q' hq => h1 Q' fun v => hq v H ea ⟨rfl, rfl⟩
  · obtain ⟨rfl, H1, J, rfl, _⟩ := hf
    have fin : ∀ {σ' : L2.St} {H' : Hp} {v : V} {u : Value} {s2 : Shared}, Inv (ncx CX P w K mg base N (nfX name qual params (.Expr (.Call (.Attribute (.Call (.Name "super" p0) [] [] p1) "__init__" p2) [e] [] p3) p4 :: rest) scope cc cda) fI A outer s H1 E) [] σ' H' s2 → RelV v u → Q v H' → CE outer P w H1 s Q u s2 :=
      fun {σ' H' v u s2} J rv q => ⟨v, H', J.os, J.bare, J.base, J.hok, rv, q⟩
    refine wpAt_of_wpAny (wpAny_mono ((hr A outer s H1 E).run [] s' _ H1 _ J h2) (fun fl s2 hs => ?_) fun e s2 z => z)
    cases fl with
    | ret u =>
      obtain ⟨v, σ', H', J2, rv, q⟩ := hs
      exact fin J2 rv q
    | next =>
      obtain ⟨σ', H', J2, q⟩ := hs
      exact fin (v := V.non) (u := Value.none) J2 rfl q
    | brk =>
      obtain ⟨_, _, _, q⟩ := hs
      exact False.elim q
    | cont =>
      obtain ⟨_, _, _, q⟩ := hs
      exact False.elim q
end
end Mx

set_option maxHeartbeats 1000000
namespace Mx
open PySem L2 PySem.Spec PyProof.Rows NdefX
/-- the fields that an own error keeps of its arguments -/
abbrev MkX := List D → Option (List (Str × D))
def spE (K : PySem.W.Frag) (C : Addr) (n : Nat) (mk : MkX) : Sp := fun vs H Q _ => ∃ a ws ι H0 ds fs, vs = .ref a :: ws ∧ ws.length = n ∧ H a = some (exo a C none) ∧ RelDs K ι H0 ds ws ∧ mk ds = some fs ∧ (fs = [] → Q .non H) ∧
  ∀ dx us H2, H dx = none → dx ≠ a → H2 a = some (exo a C (some dx)) → H2 dx = some (exd dx us) → RelF K ι H0 fs us → (∀ b, b ≠ a → b ≠ dx → H2 b = H b) → Q .non H2
structure ExM (P : Program) (w : World) (K : PySem.W.Frag) (mg : Str → Option Value) (base : Heap) (k : Nat) (c : Str) (mk : MkX) : Prop where
  O : OexC K (He.ga K c)
  ex : ∃ fI fd ps n, PySem.W.findIn K (.ref (He.ga K c)) "__init__" = some (some (.ref fI)) ∧ PySem.W.typeIn K (.ref fI) = some (.type "function") ∧ FnOk P w K mg base (L2.CX P w) k fI fd ps (spE K (He.ga K c) n mk) ∧ Binds K fd ps [] ∧ ps.length = n + 1 ∧ ∀ ds fs, mk ds = some fs → ds.length = n

section
variable {X : Cx} {pins : List (Addr × Obj)} {σ : L2.St} {H1 : Hp}
/-- an error without a dict is let go -/
theorem let_go {hA hB hC : Heap} {gA gC : Array GenState} {dA dC : Drawn} {tA tC : Nat} {oA oC : OsState} {z C : Addr} (J : Inv X pins σ H1 ⟨hA, gA, dA, tA, oA⟩) (hz : hA.objs.size ≤ z) (kp : ∀ b o, hA.get? b = some o → hB.get? b = some o)
    (U : Un (frs X.stack) [] (upd H1 z (exo z C none)) (upd H1 z (exo z C none)) hB hC) (hH : HOk X.prog X.w (upd H1 z (exo z C none)) hC) (eo : oC = oA) (bare : AllBare gC) :
    ∃ (t0 : Addr) (G : Heap), Inv X pins σ H1 ⟨G, gC, dC, tC, oC⟩ ∧ (∀ b o, G.get? b = some o → hC.get? b = some o) ∧ G.get? z = none ∧ hC.get? z = some ({ cls := .ref C, dict := none, data := .fields #[.ref t0, .none, .none, .none, .bool false, .none] } : Obj) := by
  obtain ⟨t0, ez⟩ := exo_at hH (upd_same (H := H1) (a := z) (o := exo z C none))
  have free : H1 z = none := J.hok.fresh hz
  obtain ⟨G, ga, gb⟩ := restrict hC fun b => decide (b ≠ z)
  have same : ∀ b, b ≠ z → G.get? b = hC.get? b := fun b hb => ga b (decide_eq_true hb)
  have gz : G.get? z = none := gb z (by simp)
  have older : ∀ {b : Addr} {o : Obj}, hA.get? b = some o → b ≠ z := fun {b o} e => Nat.ne_of_lt (Nat.lt_of_lt_of_le (Heap.lt_size e) hz)
  have lift : ∀ {b : Addr} {x : Option HO}, b ≠ z → H1 b = x → upd H1 z (exo z C none) b = x := fun {b x} hb e => by rw [upd_ne hb]; exact e
  have U' : Un (frs X.stack) [] H1 H1 hA G := {
    keep := fun b o e n hf hx => (same b (older e)).trans (U.keep b o (kp b o e) (lift (older e) n) hf hx)
    slot := fun b o e n hf hx => by
      obtain ⟨sl, q⟩ := U.slot b o (kp b o e) (lift (older e) n) hf hx
      exact ⟨sl, (same b (older e)).trans q⟩
    free := fun b o e n hx => n
    there := fun b o e hx => by
      obtain ⟨o', q⟩ := U.there b o (kp b o e) hx
      exact ⟨o', (same b (older e)).trans q⟩
    tups := fun b xs e => e
    frzs := fun b o v e => e
    tbls := fun b ps e => ⟨#[], by rw [e]; simp⟩ }
  have hok' : HOk X.prog X.w H1 G := fun b o e => by
    have bz : b ≠ z := ne_of_none e free
    have own : ∀ {c : Addr}, H1 c = some (.own b) → c ≠ z := fun {c} hc => ne_of_none hc free
    refine (hH b o (lift bz e)).stay (fun c v hc y => ?_) (fun c hc => ?_) fun c xs hc => ?_
    · have cz : c ≠ z := by
        rcases hc with hc | hc
        · rw [hc]; exact bz
        · by_cases q : c = z
          · rw [q, upd_same] at hc
            exact absurd (Option.some.inj hc) exo_own
          · exact q
      rw [same c cz]; exact y
    · by_cases q : c = z
      · rw [q, upd_same] at hc
        exact absurd (Option.some.inj hc) exo_own
      · rw [upd_ne q] at hc; exact hc
    · by_cases q : c = z
      · rw [q, upd_same] at hc
        exact absurd (Option.some.inj hc) exo_tup
      · rw [upd_ne q] at hc; exact hc
  refine ⟨t0, G, J.call' (ch := []) eo U' hok' bare (fun b q => absurd q (by simp)), fun b o e => ?_, gz, ez⟩
  by_cases q : b = z
  · rw [q, gz] at e; cases e
  · exact (same b q).symm.trans e
def tMkE (K : PySem.W.Frag) (C : Addr) (mk : MkX) (ta : TA) : L2.St → Hp → XK → Prop := fun σ H Q => ta σ H fun vs H1 => vs.length ≤ 1000 ∧ ∃ ι S ds fs, Sim K ι S H1 ∧ RelDs K ι H1 ds vs ∧ mk ds = some fs ∧
  ∀ H2 dd c, Gr H1 H2 → Sim K ι S H2 → RelX K ι H2 ⟨c, fs⟩ dd → Q (.ref C) dd H2
theorem made_err {c : Str} {mk : MkX} {k : Nat} {s : Shared} {us : List Value} {vs : List V} {Q : XK} {ι : List Addr} {S : Sto} {ds : List D} {fs : List (Str × D)} (M : ExM X.prog X.w X.K X.mg X.base k c mk) (room : Room (k + 1) X.A) (I1 : Inv X pins σ H1 s) (r1 : Vals vs us) (hz : vs.length ≤ 1000)
    (si : Sim X.K ι S H1) (rd : RelDs X.K ι H1 ds vs) (em : mk ds = some fs) (q : ∀ H2 dd c', Gr H1 H2 → Sim X.K ι S H2 → RelX X.K ι H2 ⟨c', fs⟩ dd → Q (.ref (He.ga X.K c)) dd H2) :
    wpAny (model X.prog X.w) X.A (call (.ref (He.ga X.K c)) us) (MkP X pins σ Q) X.xe s := by
  have T := M.O
  obtain ⟨fI, fd, ps, n, iC, tI, F1, hb, hps, hmk⟩ := M.ex
  have hn : vs.length = n := by rw [← rd.length]; exact hmk _ _ em
  generalize He.ga X.K c = C at *
  obtain ⟨nm, qn, N, bs, bm, sn, sub, ab, col, dd, k0, k1, k2, k3, k5, hC, hbm⟩ := T.cls
  obtain ⟨hh, g, dr, tk, os⟩ := s
  have above : hh.objs.size ≤ hh.objs.size + 1 := Nat.le_succ _
  have fr : H1 (hh.objs.size + 1) = none := I1.hok.fresh above
  have kk : ∀ b o, hh.get? b = some o → ((hh.push (PySem.W.kdv_tup us)).push (PySem.HandSPX.excO C hh.objs.size)).get? b = some o := fun b o e => Heap.get?_push_of_some _ (Heap.get?_push_of_some _ e)
  have here : ((hh.push (PySem.W.kdv_tup us)).push (PySem.HandSPX.excO C hh.objs.size)).get? (hh.objs.size + 1) = some (PySem.HandSPX.excO C hh.objs.size) := by heap_get
  have I2 : Inv X pins σ (upd H1 (hh.objs.size + 1) (exo (hh.objs.size + 1) C none)) ⟨(hh.push (PySem.W.kdv_tup us)).push (PySem.HandSPX.excO C hh.objs.size), g, dr, tk, os⟩ := I1.laid (t' := tk) kk above (exo_ok here)
  generalize ez : hh.objs.size + 1 = z at *
  have gz : Gr H1 (upd H1 z (exo z C none)) := Gr.new fr
  have sp : spE X.K C n mk (V.ref z :: vs) (upd H1 z (exo z C none)) (fun v H2 => v = .non ∧ ((fs = [] ∧ H2 = upd H1 z (exo z C none)) ∨
      ∃ dx ws, H2 z = some (exo z C (some dx)) ∧ H2 dx = some (exd dx ws) ∧ H1 dx = none ∧ dx ≠ z ∧ RelF X.K ι H1 fs ws ∧ ∀ b, b ≠ z → b ≠ dx → H2 b = H1 b)) (fun _ _ _ => False) :=
    ⟨z, vs, ι, H1, ds, fs, rfl, hn, upd_same, rd, em, fun e => ⟨rfl, .inl ⟨e, rfl⟩⟩, fun dx ws H2 n1 n2 e1 e2 rf same => ⟨rfl, .inr ⟨dx, ws, e1, e2, by rw [upd_ne n2] at n1; exact n1, n2, rf, fun b b1 b2 => by rw [same b b1 b2, upd_ne b1]⟩⟩⟩
  have r2 : Vals (V.ref z :: vs) (Value.ref z :: us) := .cons rfl r1
  have hl : (Value.ref z :: us ++ []).length = ps.length := by rw [List.append_nil, ← r2.length, hps, List.length_cons, hn]
  have bd := hb _ (Value.ref z :: us) I2.kIn hl
  rw [List.append_nil] at bd
  have fits : us.length ≤ sizeLine := by rw [← r1.length, sizeLine_eq]; omega
  refine wpAny_call (PySem.HandSPX.call_own F.excBase_ValueError (fun Y => PySem.HandSPX.refsVE_contains Y bm hbm) (I1.kIn _ _ hC) (PySem.W.looks_findIn I1.kIn iC) (fun self => PySem.W.bind_fn I1.kIn self tI) fits ?_)
  rw [ez]
  refine codeAny_mono (F1.run _ X.stack _ _ ⟨Value.ref z :: us, []⟩ (Value.ref z :: us) _ _ _ (room.make C us []) (I2.env0.make C us []) bd r2 sp) fun r s' post => ?_
  cases r with
  | error er => exact passL pins σ _ _ er s' I2 post
  | ok fl =>
    cases fl with
    | next => exact False.elim post
    | brk => exact False.elim post
    | cont => exact False.elim post
    | ret u =>
      obtain ⟨v, H2, eo, bare, U, hH, rv, ev, alt⟩ := post
      subst ev
      obtain ⟨h', g', d', t', o'⟩ := s'
      refine ⟨rv, ?_⟩
      rcases alt with ⟨e0, eH⟩ | ⟨dx, ws, e1, e2, n1, n2, rf, same⟩
      · subst eH
        obtain ⟨t0, G, J, kG, gz', oz⟩ := let_go (dC := d') (tC := t') I1 (by omega) kk U hH eo bare
        refine ⟨z, _, _, ⟨G, g', d', t', o'⟩, H1, .ref C, none, rfl, J, kG, gz', oz, ⟨rfl, rfl⟩, rfl, rfl, fr, rfl, bare, raises_own T.exC T.tyC, q H1 none Str.empty (Gr.refl H1) si (.inl ⟨e0, rfl⟩)⟩
      · have H3e : ∀ b o, H1 b = some o → (upd (L2.del H2 z) dx (.xd ws)) b = some o := fun b o e => by
          rw [upd_ne (ne_of_none e n1), del_ne (ne_of_none e fr), same b (ne_of_none e fr) (ne_of_none e n1)]; exact e
        have g3 : Gr H1 (upd (L2.del H2 z) dx (.xd ws)) := ⟨fun b o e _ => H3e b o e, fun b o e => by rw [H3e b o e]; simp⟩
        have s3 : Sim X.K ι S (upd (L2.del H2 z) dx (.xd ws)) := si.grow g3 fun b hb => by
          obtain ⟨m, hm, e⟩ := List.getElem_of_mem hb
          obtain ⟨ob, _, ro⟩ := si.at (show ι[m]? = some b by rw [List.getElem?_eq_getElem hm, e])
          obtain ⟨o, eo', _⟩ := ro.there
          rw [eo']; exact H3e b o eo'
        exact mk_end (raises_own T.exC T.tyC) I1 (by omega) kk U hH eo bare e1 e2 n1 (q _ (some dx) Str.empty g3 s3 (.inr ⟨dx, ws, rfl, upd_same, rf.mono (List.prefix_refl _) g3⟩))
theorem pmk_e {x : Str} {c : Str} {mk : MkX} {k j : Nat} {W : WX} {e : Expr} {es : List Expr} {ta : TA} {p pos : Pos} (M : ExM X.prog X.w X.K X.mg X.base j c mk) (cq : Cq X W k) (hm : X.mg x = some (.ref (He.ga X.K c))) (ha : PA X (e :: es) ta) (hj : j + 1 ≤ k := by decide) (hg : Gl X x := by rfl)
    (hdb : (x == ("__debug__" : Str)) = false := by decide) (he : starEach (e :: es) X.env = (false, eval e X.env) :: starEach es X.env := by rfl) (hpl : (backTo pos (starEach es X.env)).any (·.1) = false := by rfl) :
    PMk X (.Call (.Name x p) (e :: es) [] pos) (tMkE X.K (He.ga X.K c) mk ta) := by
  intro pins s σ H Q I h
  refine wpAny_Call_Name_kw (ld_glob I hg hm ?_ hdb)
  refine PySem.W.callWith_K (h₀ := X.base) I.ok.mod.kin M.O.kC (thn (ha.run pos pins s σ H _ I h) fun us s1 ⟨vs, H1, I1, r1, hz, ι, S, ds, fs, si, rd, em, q⟩ => ⟨I1.kIn, ?_⟩) he hpl
  exact made_err M (cq.hr.mono hj) I1 r1 hz si rd em q
theorem pmk_e0 {x : Str} {c : Str} {mk : MkX} {k j : Nat} {W : WX} {p pos : Pos} (M : ExM X.prog X.w X.K X.mg X.base j c mk) (cq : Cq X W k) (hm : X.mg x = some (.ref (He.ga X.K c))) (hj : j + 1 ≤ k := by decide) (hg : Gl X x := by rfl)
    (hdb : (x == ("__debug__" : Str)) = false := by decide) : PMk X (.Call (.Name x p) [] [] pos) (tMkE X.K (He.ga X.K c) mk tNil) := by
  intro pins s σ H Q I h
  refine wpAny_Call_Name_kw (ld_glob I hg hm ?_ hdb)
  obtain ⟨hz, ι, S, ds, fs, si, rd, em, q⟩ := h
  exact PySem.W.callWith_K0 I.kIn M.O.kC (made_err M (cq.hr.mono hj) I .nil hz si rd em q)
end
/-- raise C(..) -/
def sRaise (c : Str) (mk : MkX) (as : SemA) : Stm := fun ρ S => (as ρ S).thn ρ fun ds S => match mk ds with
  | some fs => if ds.length ≤ 1000 then .exc ⟨c, fs⟩ ρ S else .bad
  | none => .bad
section
variable {X : Cx} {xc : XcP} {W : WX} {k j : Nat} {c x : Str} {mk : MkX} {e : Expr} {es : List Expr} {p pos pos' : Pos}
theorem raise_weak {De : Ends} {σ : L2.St} {H1 : Hp} {ι1 : List Addr} {S1 : Sto} {ds : List D} {vs : List V} {ρ : Env} (re1 : RelE X.K ι1 H1 xc ρ σ) (s1 : Sim X.K ι1 S1 H1) (rd1 : RelDs X.K ι1 H1 ds vs)
    (h1 : PostS X.K xc W ι1 H1 (match mk ds with
  | some fs => if ds.length ≤ 1000 then RS.exc ⟨c, fs⟩ ρ S1 else .bad
  | none => .bad) De) : vs.length ≤ 1000 ∧ ∃ ι S ds fs, Sim X.K ι S H1 ∧ RelDs X.K ι H1 ds vs ∧ mk ds = some fs ∧
  ∀ H2 dd c', Gr H1 H2 → Sim X.K ι S H2 → RelX X.K ι H2 ⟨c', fs⟩ dd → W (.ref (He.ga X.K c)) dd σ H2 := by
  split at h1
  · rename_i fs em
    split at h1
    · rename_i hl
      exact ⟨by rw [← rd1.length]; exact hl, ι1, S1, ds, fs, s1, rd1, em, fun H2 dd c' g s2 rx => h1 ι1 σ dd H2 (List.prefix_refl _) g s2 (re1.mono (List.prefix_refl _) g) rx⟩
    · exact h1.elim
  · exact h1.elim
theorem ms_raise {fa : SemA} (M : ExM X.prog X.w X.K X.mg X.base j c mk) (cq : Cq X W k) (hm : X.mg x = some (.ref (He.ga X.K c))) (ha : MA X xc W (e :: es) fa) (hj : j + 1 ≤ k := by decide) (hc : X.calm = true := by rfl) (hg : Gl X x := by rfl)
    (hdb : (x == ("__debug__" : Str)) = false := by decide) (he : starEach (e :: es) X.env = (false, eval e X.env) :: starEach es X.env := by rfl) (hpl : (backTo pos (starEach es X.env)).any (·.1) = false := by rfl) :
    MS X xc W (.Raise (some (.Call (.Name x p) (e :: es) [] pos)) none pos') (sRaise c mk fa) := by
  refine (ps_raise hc cq.tk (pmk_e M cq hm ha hj hg hdb he hpl)).weak fun D σ H ⟨ι, ρ, S, r, s, h⟩ => ?_
  refine TA.sub (tMA_thn r s h) ?_
  rintro vs H1 ⟨ι1, ds, S1, p1, g1, re1, s1, rd1, h1⟩
  exact raise_weak re1 s1 rd1 h1
theorem ms_raise0 (M : ExM X.prog X.w X.K X.mg X.base j c mk) (cq : Cq X W k) (hm : X.mg x = some (.ref (He.ga X.K c))) (hj : j + 1 ≤ k := by decide) (hc : X.calm = true := by rfl) (hg : Gl X x := by rfl)
    (hdb : (x == ("__debug__" : Str)) = false := by decide) : MS X xc W (.Raise (some (.Call (.Name x p) [] [] pos)) none pos') (sRaise c mk aNil) := by
  refine (ps_raise hc cq.tk (pmk_e0 M cq hm hj hg hdb)).weak fun D σ H ⟨ι, ρ, S, r, s, h⟩ => ?_
  exact raise_weak (vs := []) r s (show RelDs X.K ι H [] [] from rfl) h
end
end Mx

set_option maxHeartbeats 1000000
namespace Mx
open PySem L2 PySem.Spec PyProof.Rows NdefX
/-- {x}: none or an int -/
def tFmN (te : TE) : TE := fun σ H Q => te σ H fun x H1 => (x = .non ∧ Q (.str "None") H1) ∨ ∃ i : Int, x = .int i ∧ i.natAbs.log2 < 1920 ∧ Q (.str (toString i)) H1
theorem pe_fmN {X : Cx} {e : Expr} {te : TE} {pos : Pos} (he : PE X e te) : PE X (.FormattedValue e (-1) none pos) (tFmN te) := by
  refine ⟨fun pins s σ H Q I h => ?_⟩
  refine wpAny_FormattedValue_plain (thn (he.run pins s σ H _ I h) fun v s1 ⟨x, H1, I1, r1, q⟩ => ?_)
  rcases q with ⟨rfl, q⟩ | ⟨i, rfl, hz, q⟩
  · obtain rfl : v = Value.none := r1
    exact wpAny_formatField_none ⟨.str "None", H1, I1.tok _, ⟨_, rfl⟩, q⟩
  · obtain ⟨t, rfl⟩ := r1
    exact wpAny_formatField_int hz ⟨.str (toString i), H1, I1.tok _, ⟨_, rfl⟩, q⟩
def fmOk : D → Bool
  | .non => true
  | .int i => decide (i.natAbs.log2 < 1920) && decide ((Str.ofString (toString i)).length ≤ 1000)
  | _ => false
def mk0 : MkX
  | [] => some []
  | _ => none
def mk1 (f : Str) : MkX
  | [d] => if fmOk d = true then some [(f, d)] else none
  | _ => none
def mk2 (f g : Str) : MkX
  | [d, e] => if fmOk d = true then some [(g, e), (f, d)] else none
  | _ => none
theorem RelDs.nil_of {K : PySem.W.Frag} {ι : List Addr} {H : Hp} {vs : List V} (h : RelDs K ι H [] vs) : vs = [] := h
theorem RelDs.cons_of {K : PySem.W.Frag} {ι : List Addr} {H : Hp} {d : D} {ds : List D} {vs : List V} (h : RelDs K ι H (d :: ds) vs) : ∃ v r, vs = v :: r ∧ RelD K ι H d v ∧ RelDs K ι H ds r := by
  unfold RelDs at h; exact h
section
variable {K : PySem.W.Frag} {C : Addr} {N ps : List Str} {vs : List V} {H : Hp} {Q : VK} {E : XK} {f g m p q : Str}
theorem spx0 (hp : ps.length = 1) (h : spE K C 0 mk0 vs H Q E) : spX C N ps (tC (.str m)) tNext vs H Q E := by
  obtain ⟨a, ws, ι, H0, ds, fs, rfl, hl, ea, rd, em, h1, h2⟩ := h
  refine ⟨a, ws, rfl, by rw [List.length_cons, hl, hp], ea, fun Q' hq => hq _, ?_⟩
  have e0 : fs = [] := by
    unfold mk0 at em
    split at em
    · exact (Option.some.inj em).symm
    · cases em
  exact h1 e0
/-- the text of the error -/
def tTx (p q : Str) : TE := fun σ H Q => tJs [tC (.str p), tFmN (tVar 1), tC (.str q)] Str.empty σ H fun out H1 => Q (.str out) H1
theorem len_app (a b : Str) : (a ++ b).length = a.length + b.length := by first | exact Str.length_append a b | simp
theorem tx_ok {ι : List Addr} {H0 : Hp} {d : D} {v : V} {σ : L2.St} {Q : VK} (hp : p.length ≤ 1000) (hq : q.length ≤ 1000) (rd : RelD K ι H0 d v) (ok : fmOk d = true) (hv : σ[1]? = some (some v)) (h : ∀ x, Q x H) : tTx p q σ H Q := by
  have e0 : (Str.empty ++ p).length ≤ 1000 := by rw [len_app]; exact (show 0 + p.length ≤ 1000 by omega)
  have le := sizeLine_eq
  refine ⟨p, rfl, by omega, ⟨v, hv, ?_⟩⟩
  have fin : ∀ t : Str, t.length ≤ 1000 → ∃ y : Str, V.str t = .str y ∧ (Str.empty ++ p ++ y).length ≤ sizeLine ∧ tJs [tC (.str q)] (Str.empty ++ p ++ y) σ H fun out H1 => Q (.str out) H1 := fun t ht => by
    have e1 := len_app (Str.empty ++ p) t
    have e2 := len_app (Str.empty ++ p ++ t) q
    exact ⟨t, rfl, by omega, q, rfl, by omega, h _⟩
  cases d with
  | non =>
    have e : v = .non := by simpa [RelD] using rd
    subst e
    exact .inl ⟨rfl, fin "None" (by decide)⟩
  | int i =>
    have e : v = .int i := by simpa [RelD] using rd
    subst e
    unfold fmOk at ok
    obtain ⟨o1, o2⟩ := Bool.and_eq_true_iff.mp ok
    exact .inr ⟨i, rfl, of_decide_eq_true o1, fin (toString i) (of_decide_eq_true o2)⟩
  | bl b => cases ok
  | str x => cases ok
  | tup x => cases ok
  | ref x => cases ok
  | scr x => cases ok
  | ty x => cases ok
  | cls x => cases ok
  | opq => cases ok
theorem spx1 (T : OexC K C) (hf : PySem.W.findIn K (.ref C) f = some none) (hp : ps.length = 2) (l1 : p.length ≤ 1000) (l2 : q.length ≤ 1000) (h : spE K C 1 (mk1 f) vs H Q E) : spX C N ps (tTx p q) (tSeq (tOst K f (tVar 0) (tVar 1)) tNext) vs H Q E := by
  obtain ⟨a, ws, ι, H0, ds, fs, rfl, hl, ea, rd, em, h1, h2⟩ := h
  unfold mk1 at em
  split at em
  · rename_i d
    split at em
    · rename_i ok
      obtain ⟨v, r, rfl, r1, r2⟩ := rd.cons_of
      obtain rfl := r2.nil_of
      cases em
      refine ⟨a, [v], rfl, by rw [List.length_cons, hl, hp], ea, fun Q' hq => tx_ok l1 l2 r1 ok rfl hq, ?_⟩
      refine ⟨v, rfl, .ref a, rfl, a, C, rfl, T, hf, .inl ⟨ea, fun dx n1 n2 => ?_⟩⟩
      refine h2 dx [(f, v)] _ n1 n2 upd_same (by rw [upd_ne n2, upd_same]) ⟨v, [], rfl, r1, rfl⟩ fun b b1 b2 => by rw [upd_ne b1, upd_ne b2]
    · cases em
  · cases em
theorem spx2 (T : OexC K C) (hf : PySem.W.findIn K (.ref C) f = some none) (hg : PySem.W.findIn K (.ref C) g = some none) (hp : ps.length = 3) (l1 : p.length ≤ 1000) (l2 : q.length ≤ 1000) (h : spE K C 2 (mk2 f g) vs H Q E) :
    spX C N ps (tTx p q) (tSeq (tOst K f (tVar 0) (tVar 1)) (tSeq (tOst K g (tVar 0) (tVar 2)) tNext)) vs H Q E := by
  obtain ⟨a, ws, ι, H0, ds, fs, rfl, hl, ea, rd, em, h1, h2⟩ := h
  unfold mk2 at em
  split at em
  · rename_i d d2
    split at em
    · rename_i ok
      obtain ⟨v, r, rfl, r1, r2⟩ := rd.cons_of
      obtain ⟨u, r, rfl, ru, r3⟩ := r2.cons_of
      obtain rfl := r3.nil_of
      cases em
      refine ⟨a, [v, u], rfl, by rw [List.length_cons, hl, hp], ea, fun Q' hq => tx_ok l1 l2 r1 ok rfl hq, ?_⟩
      refine ⟨v, rfl, .ref a, rfl, a, C, rfl, T, hf, .inl ⟨ea, fun dx n1 n2 => ?_⟩⟩
      refine ⟨u, rfl, .ref a, rfl, a, C, rfl, T, hg, .inr ⟨dx, [(f, v)], upd_same, by rw [upd_ne n2, upd_same], by simp, ?_⟩⟩
      refine h2 dx [(g, u), (f, v)] _ n1 n2 (by rw [upd_ne (Ne.symm n2), upd_same]) upd_same ⟨u, _, rfl, ru, v, [], rfl, r1, rfl⟩ fun b b1 b2 => by rw [upd_ne b2, upd_ne b1, upd_ne b2]
    · cases em
  · cases em
end
end Mx

set_option maxHeartbeats 1000000
namespace Mx
open PySem L2 PySem.Spec PyProof.Rows NdefX
abbrev HTs := Addr → Value → Option Addr → TS
def behind (i : Nat) (De : Ends) : Ends := { nx := fun σ' H' => De.nx (σ'.set i none) H', rt := De.rt, bk := fun σ' H' => De.bk (σ'.set i none) H', ct := fun σ' H' => De.ct (σ'.set i none) H' }
/-- clauses 'except X as n', one after the other: slot i is n's -/
def wAll (K : PySem.W.Frag) (Wout : WX) (De : Ends) : List (Value × Nat × HTs) → WX
  | [] => Wout
  | (c, i, ts) :: r => fun cls d σ H => ∃ b, PySem.W.exmOne K cls c = some b ∧ (b = true → ∀ a, H a = none → ts a cls d (behind i De) (σ.set i (some (.ref a))) H) ∧ (b = false → wAll K Wout De r cls d σ H)
inductive Clauses (X : Cx) : List ExceptHandler → List (Value × Nat × HTs) → Prop
  | nil : Clauses X [] []
  | cons {x n : Str} {c : Value} {i : Nat} {ts : HTs} {st : Stmt} {sts : List Stmt} {np po : Pos} {hds : List ExceptHandler} {l : List (Value × Nat × HTs)} (hc : Names X x c) (hi : X.N[i]? = some n) (hl : X.env.kindOf n = some .local)
      (hsu : ∀ (a : Addr) (oe : Obj) (cls : Value) (d : Option Addr) (pn : List (Addr × Obj)), Zc cls d oe → (∃ vs, oe.data = .fields vs) → PSs (X.suite a ((a, oe) :: pn)) (st :: sts) (ts a cls d)) (r : Clauses X hds l) :
      Clauses X (.ExceptHandler (some (.Name x np)) (some n) (st :: sts) po :: hds) ((c, i, ts) :: l)
section
variable {X : Cx} {body : List Stmt} {h₀ : ExceptHandler} {hds : List ExceptHandler} {l : List (Value × Nat × HTs)} {pos : Pos} {tb : WX → TS} {Wout : WX}
theorem ps_try_all (es : X.stack = X.env :: X.outer) (ef : X.env.frame = some X.env.locals) (nd : X.N.Nodup) (tk : Takes X Wout)
    (hb : ∀ (W : WX) (pn : List (Addr × Obj)) (xe : Value → Shared → Prop), Takes (X.tr pn xe) W → PassesOwn (model X.prog X.w) X.A X.env xe → PSs (X.tr pn xe) body (tb W))
    (cl : Clauses X (h₀ :: hds) l) : PS X (.Try body (h₀ :: hds) [] [] pos) (fun De σ H => tb (wAll X.K Wout De l) De σ H) := by
  refine ⟨fun pins s σ H De I h => ?_⟩
  have ok := I.ok
  have efr : X.A.frames = some (X.env :: X.outer) := by rw [ok.frames, es]
  refine wpAny_Try_except ?_
  refine wpAny_mono ((hb (wAll X.K Wout De l) (X.pn ++ pins) (fun e s₁ => wpAny (model X.prog X.w) X.A (noteFrame e X.env) (fun _ s₂ => wpAny (model X.prog X.w) X.A (setFlight e none) (fun _ s₃ =>
    wpAny (model X.prog X.w) X.A (handleBy e X.env (h₀ :: hds)) (SP X pins De) X.xe s₃) X.xe s₂) X.xe s₁) (fun u t xx => ?_) PassesOwn.looking).run [] s σ H De (I.toTry _) h) (fun fl t hsp => ?_) (fun e t he => he)
  · obtain ⟨a, B, tI, pins₁, σ₁, H₁, cls, d, rfl, J₀, nb, up, sky, na, eo, bare, want⟩ := xx
    have J : Inv X pins σ₁ H₁ tI := J₀.ofTry ok
    have sky₁ : Sky B (X.env :: X.outer) a (Zc cls d) X.env.locals t.heap := by rw [← es]; exact sky
    show wpAny (model X.prog X.w) X.A (noteFrame (.ref a) X.env) _ _ _
    refine Sky.land Zc.steady efr ef sky₁ fun k3 fly3 up3 => ?_
    have J3 : Inv X pins σ₁ H₁ { t with heap := k3 } := J.landed nb fly3.1 (up.trans up3) eo bare
    obtain ⟨o3, us3, g3, z3, d3⟩ := fly3.there
    have off : a ∉ frs (X.env :: X.outer) := fun hm => by
      obtain ⟨_, o', e', hnf⟩ := fly3.2.2.1.mem hm
      rw [g3] at e'; cases e'
      exact hnf _ d3
    have offL : a ≠ X.env.locals := fun z => off (List.mem_filterMap.mpr ⟨X.env, List.mem_cons_self, by rw [ef, z]⟩)
    have offF : a ∉ X.fs := fun hm => by
      obtain ⟨e, he, q⟩ := List.mem_filterMap.mp hm
      exact off (List.mem_filterMap.mpr ⟨e, List.mem_cons_of_mem _ he, q⟩)
    have S3 := J3.suite g3 d3 na offL offF
    have each : ∀ {hs₁ : List ExceptHandler} {l₁ : List (Value × Nat × HTs)}, Clauses X hs₁ l₁ → wAll X.K Wout De l₁ cls d σ₁ H₁ →
        wpAny (model X.prog X.w) X.A (handleBy (.ref a) X.env hs₁) (SP X pins De) X.xe { t with heap := k3 } := by
      intro hs₁ l₁ hk
      induction hk with
      | nil =>
        intro want
        refine wpAny_handleBy_nil ?_
        obtain ⟨y1, y2, y3, oe, vs, T, oT, ts', he, hz, hd, h1, hr⟩ := id fly3
        unfold PySem.passOn
        refine wpAny_bind (wpAny_field he hd h1 ?_)
        rw [if_neg (show ¬ ((Value.ref T == Value.none) = true) from by simp)]
        have fin : wpAny (model X.prog X.w) X.A (setFlight (.ref a) X.env.frame) (fun _ s4 => wpAny (model X.prog X.w) X.A (throw (.ref a) : PySem.Sem Flow) (SP X pins De) X.xe s4) X.xe { t with heap := k3 } := by
          rw [ef]
          refine HandSPX.setFlight_upZ fly3 fun k4 held4 up4 => wpAny_throw (tk _ _ ?_)
          exact ⟨a, B, tI, pins, σ₁, H₁, cls, d, rfl, J, nb, (up.trans up3).trans up4, .inr (.inr (by rw [es]; exact held4)), na, eo, bare, want⟩
        first
          | exact wpAny_bind (wpAny_pure (wpAny_bind fin))
          | exact wpAny_bind fin
      | @cons x n c i ts st sts np po hs2 l2 hc hi hl hsu r ih =>
        intro want
        obtain ⟨b, hb1, yes, no⟩ := want
        refine wpAny_handleBy_cons (codeAny_handlers_test ?_) (by intro q; cases q)
        have LT : PySem.W.Looks (model X.prog X.w) k3 (typeOf (.ref a)) cls := fun A Q E s k q => wpAny_typeOf_ref (k _ _ g3) (by rw [z3.1]; exact q)
        have LM := PySem.W.exm_one (M := model X.prog X.w) (J3.kIn) LT hb1
        have asked : ∀ {Q : Value → Shared → Prop} {E : Value → Shared → Prop}, Q c { t with heap := k3 } → wpAny (model X.prog X.w) (X.A.mark (some (.ref a))) (eval (.Name x np) X.env) Q E { t with heap := k3 } := fun {Q E} q => by
          obtain ⟨hg, hdbg, hm | ⟨hm, hv, hnn⟩⟩ := hc
          · exact ld_glob (X := X.suite a ((a, o3) :: (X.pn ++ pins))) S3 hg hm q hdbg
          · exact ld_blt (X := X.suite a ((a, o3) :: (X.pn ++ pins))) S3 hg hm hv q hnn hdbg
        refine asked (LM.here ?_)
        cases b with
        | true =>
          refine codeAny_handlers_suite_as ?_
          refine HandSPX.lands_againZ fly3 fun k4 fly4 up4 => ?_
          have J4 : Inv X pins σ₁ H₁ { t with heap := k4 } := J.landed nb fly4.1 ((up.trans up3).trans up4) eo bare
          obtain ⟨o4, us4, g4, z4, d4⟩ := fly4.there
          have S4 := J4.suite g4 d4 na offL offF
          refine store_ok (X := X.suite a ((a, o4) :: (X.pn ++ pins))) (v := .ref a) S4 nd hi (.inl hl) rfl (fun s5 S5 => ?_) (.inr hl)
          refine wpAny_mono ((hsu a o4 cls d (X.pn ++ pins) z4 ⟨_, d4⟩).run [] s5 _ H₁ _ S5 (yes rfl a na)) (fun f s6 hsp => ?_) (fun _ _ z => False.elim z)
          have gone : ∀ {σ6 : L2.St} {H6 : Hp} {Q : Shared → Prop}, Inv (X.suite a ((a, o4) :: (X.pn ++ pins))) [] σ6 H6 s6 → (∀ s7, Inv X pins (σ6.set i none) H6 s7 → Q s7) →
              wpAny (model X.prog X.w) X.A (do bindName X.env n .none; unbindBehindTheSuite X.env n po) (fun _ s7 => Q s7) X.xe s6 := fun {σ6 H6 Q} S6 hq => gone_ok (S6.unsuite ok) nd hi hl hq
          cases f with
          | next =>
            obtain ⟨σ6, H6, S6, q6⟩ := hsp
            exact gone S6 fun s7 J7 => ⟨_, _, J7, q6⟩
          | brk =>
            obtain ⟨σ6, H6, S6, q6⟩ := hsp
            exact gone S6 fun s7 J7 => ⟨_, _, J7, q6⟩
          | cont =>
            obtain ⟨σ6, H6, S6, q6⟩ := hsp
            exact gone S6 fun s7 J7 => ⟨_, _, J7, q6⟩
          | ret u =>
            obtain ⟨v6, σ6, H6, S6, r6, q6⟩ := hsp
            exact gone S6 fun s7 J7 => ⟨_, _, _, J7, r6, q6⟩
        | false =>
          show wpAny _ X.A (handleBy (.ref a) X.env hs2) _ _ _
          exact ih (no rfl)
    exact each cl want
  · cases fl with
    | next =>
      obtain ⟨σ₁, H₁, J₁, q⟩ := hsp
      exact wpAny_execs_nil ⟨σ₁, H₁, J₁.ofTry ok, q⟩
    | brk =>
      obtain ⟨σ₁, H₁, J₁, q⟩ := hsp
      exact ⟨σ₁, H₁, J₁.ofTry ok, q⟩
    | cont =>
      obtain ⟨σ₁, H₁, J₁, q⟩ := hsp
      exact ⟨σ₁, H₁, J₁.ofTry ok, q⟩
    | ret u =>
      obtain ⟨v, σ₁, H₁, J₁, r, q⟩ := hsp
      exact ⟨v, σ₁, H₁, J₁.ofTry ok, r, q⟩
end

/-! ### of the machine -/
abbrev SubF := Str → Option Bool
def Env.del (ρ : Env) (i : Nat) : Env := ⟨ρ.sl.set i none, none⟩
def handle (e : Xc) (ρ : Env) (S : Sto) : List (SubF × Nat × Stm) → RS
  | [] => .exc e ρ S
  | (p, i, suite) :: r => match p e.cls with
    | some true => if i < ρ.sl.length then (match suite ⟨ρ.sl.set i (some .opq), some (i, e)⟩ S with
      | .nx ρ2 S2 => .nx (ρ2.del i) S2
      | .rt d S2 => .rt d S2
      | _ => .bad) else .bad
    | some false => handle e ρ S r
    | none => .bad
def sTry (body : Stm) (cl : List (SubF × Nat × Stm)) : Stm := fun ρ S => match body ρ S with
  | .exc e ρ' S' => handle e ⟨ρ'.sl, none⟩ S' cl
  | r => r
def SubOk (K : PySem.W.Frag) (c : Str) (p : SubF) : Prop := ∀ d b, p d = some b → PySem.W.exmOne K (.ref (He.ga K d)) (.ref (He.ga K c)) = some b
def hts (K : PySem.W.Frag) (fs : Stm) : HTs := fun a cls d => tMS K (some (a, cls, d)) W0 fs
inductive MCl (X : Cx) : List ExceptHandler → List (SubF × Nat × Stm) → List (Value × Nat × HTs) → Prop
  | nil : MCl X [] [] []
  | cons {x n : Str} {i : Nat} {p : SubF} {fs : Stm} {st : Stmt} {sts : List Stmt} {np po : Pos} {hds : List ExceptHandler} {cl : List (SubF × Nat × Stm)} {l : List (Value × Nat × HTs)} (hp : SubOk X.K x p) (hc : Names X x (.ref (He.ga X.K x))) (hi : X.N[i]? = some n) (hl : X.env.kindOf n = some .local)
      (hsu : ∀ (a : Addr) (oe : Obj) (cls : Value) (d : Option Addr) (pn : List (Addr × Obj)), Zc cls d oe → (∃ vs, oe.data = .fields vs) → MSs (X.suite a ((a, oe) :: pn)) (some (a, cls, d)) W0 (st :: sts) fs) (r : MCl X hds cl l) :
      MCl X (.ExceptHandler (some (.Name x np)) (some n) (st :: sts) po :: hds) ((p, i, fs) :: cl) ((.ref (He.ga X.K x), i, hts X.K fs) :: l)
theorem MCl.cl {X : Cx} {hds : List ExceptHandler} {cl : List (SubF × Nat × Stm)} {l : List (Value × Nat × HTs)} (h : MCl X hds cl l) : Clauses X hds l := by
  induction h with
  | nil => exact .nil
  | cons hp hc hi hl hsu r ih => exact .cons hc hi hl hsu ih
theorem RelE.nox {K : PySem.W.Frag} {ι : List Addr} {H : Hp} {xc xc' : XcP} {ρ : Env} {σ : L2.St} (r : RelE K ι H xc ρ σ) : RelE K ι H xc' ⟨ρ.sl, none⟩ σ := ⟨r.len, r.sl, fun _ _ h => by cases h⟩
theorem RelE.caught {K : PySem.W.Frag} {ι : List Addr} {H : Hp} {ρ : Env} {σ : L2.St} {i : Nat} {e : Xc} {a : Addr} {xc : XcP} {d : Option Addr} (r : RelE K ι H xc ρ σ) (hi : i < ρ.sl.length) (rx : RelX K ι H e d) :
    RelE K ι H (some (a, .ref (He.ga K e.cls), d)) ⟨ρ.sl.set i (some .opq), some (i, e)⟩ (σ.set i (some (.ref a))) := by
  have r2 := r.set (i := i) (d := .opq) (v := .ref a) trivial
  refine ⟨r2.len, r2.sl, fun j e' h => ?_⟩
  cases h
  exact ⟨a, d, rfl, rx, by rw [List.getElem?_set_self (by rw [← r.len]; exact hi)]⟩
theorem RelE.del {K : PySem.W.Frag} {ι : List Addr} {H : Hp} {ρ : Env} {σ : L2.St} {i : Nat} {xc xc' : XcP} (r : RelE K ι H xc ρ σ) : RelE K ι H xc' (ρ.del i) (σ.set i none) := by
  refine ⟨by show (ρ.sl.set i none).length = _; simp [r.len], fun j d h => ?_, fun _ _ h => by cases h⟩
  have h : (ρ.sl.set i none)[j]? = some (some d) := h
  by_cases q : i = j
  · subst q
    by_cases hl : i < ρ.sl.length
    · rw [List.getElem?_set_self hl] at h; cases h
    · rw [List.getElem?_eq_none (by simpa using hl)] at h; cases h
  · rw [List.getElem?_set_ne q] at h
    obtain ⟨v, hv, rv⟩ := r.sl j d h
    exact ⟨v, by rw [List.getElem?_set_ne q]; exact hv, rv⟩
section
variable {X : Cx} {xc : XcP} {W : WX} {k : Nat}
theorem handle_ok {hds : List ExceptHandler} {cl : List (SubF × Nat × Stm)} {l : List (Value × Nat × HTs)} (h : MCl X hds cl l) {De : Ends} {e : Xc} {ρ : Env} {S : Sto} {ι : List Addr} {H : Hp} {σ : L2.St} {dd : Option Addr} {xc1 : XcP} (re : RelE X.K ι H xc1 ρ σ) (re2 : RelE X.K ι H xc ρ σ)
    (s : Sim X.K ι S H) (rx : RelX X.K ι H e dd) (q : PostS X.K xc W ι H (handle e ρ S cl) De) : wAll X.K W De l (.ref (He.ga X.K e.cls)) dd σ H := by
  induction h with
  | nil => exact q ι σ dd H (List.prefix_refl _) (Gr.refl H) s re2 rx
  | @cons x n i p fs st sts np po hds cl l hp hc hi hl hsu r ih =>
    unfold handle at q
    split at q
    · rename_i hpt
      refine ⟨true, hp _ _ hpt, fun _ a na => ?_, fun z => by cases z⟩
      split at q
      · rename_i hil
        refine ⟨ι, _, S, re.caught hil rx, s, ?_⟩
        split at q
        · rename_i ρ2 S2 hq
          rw [hq]
          exact fun ι3 σ3 H3 p3 g3 s3 re3 => q ι3 _ H3 p3 g3 s3 re3.del
        · rename_i d S2 hq
          rw [hq]
          exact q
        · exact q.elim
      · exact q.elim
    · rename_i hpt
      exact ⟨false, hp _ _ hpt, (fun z => by cases z), fun _ => ih q⟩
    · exact q.elim
theorem ms_try {body : List Stmt} {h₀ : ExceptHandler} {hds : List ExceptHandler} {cl : List (SubF × Nat × Stm)} {l : List (Value × Nat × HTs)} {fb : Stm} {pos : Pos} (cq : Cq X W k) (hcl : MCl X (h₀ :: hds) cl l) (nd : X.N.Nodup)
    (hb : ∀ (W : WX) (pn : List (Addr × Obj)) (xe : Value → Shared → Prop), Cq (X.tr pn xe) W k → MSs (X.tr pn xe) none W body fb)
    (es : X.stack = X.env :: X.outer := by rfl) (ef : X.env.frame = some X.env.locals := by rfl) : MS X none W (.Try body (h₀ :: hds) [] [] pos) (sTry fb cl) := by
  refine (ps_try_all (tb := fun W => tMS X.K none W fb) es ef nd cq.tk (fun W pn xe t1 t2 => hb W pn xe ⟨t1, cq.hr, t2⟩) hcl.cl).weak fun De σ H ⟨ι, ρ, S, r, s, h⟩ => ⟨ι, ρ, S, r, s, ?_⟩
  unfold sTry at h
  cases q : fb ρ S with
  | nx ρ2 S2 => rw [q] at h; exact h
  | rt d S2 => rw [q] at h; exact h
  | bad => rw [q] at h; exact h
  | exc e ρ2 S2 =>
    rw [q] at h
    exact fun ι2 σ2 dd H2 p g s2 re2 rx => handle_ok hcl (xc1 := none) re2.nox re2.nox s2 rx (h.mono p g)
end
end Mx

set_option maxHeartbeats 1000000
namespace PySem.W
open PySem PySem.Spec PySem.Calls PyProof.Rows
section
variable {prog : Program} {w : World} {A : Around} {E : Value → Shared → Prop} {s : Shared} {K : Frag} {x D : Addr} {ox : Obj} {od : Option Obj}
theorem mxFindData {C : Addr} {name : Str} {a g : Value} {od : Option Obj} (hc : (clsIn K C).isSome = true) (ha : findIn K (.ref C) name = some (some a)) (hg : specialIn K a "__get__" = some (some g)) (ht : takesIn K a = some true) : findObj K C od name = some (.bind g a) := by
  obtain ⟨cd, hc⟩ := Option.isSome_iff_exists.mp hc
  unfold findObj
  rw [hc, Option.bind_some, ha, Option.bind_some]
  simp [hg, ht]
theorem mxKinClass {Q : Option Value → Shared → Prop} (C : L2.ExcC K D)
    (X : K.In s.heap) (I : InstAt s.heap x ox D od) (h : Q (some (.ref D)) { s with toks := s.toks + 1 }) : wpAny (model prog w) A (getAttr? (.ref x) "__class__") Q E s := by
  obtain ⟨c1, c2, c3, c4, c5, c6, c7, c8⟩ := C
  have found : findObj K D od "__class__" = some (.bind (.builtin "getset_descriptor.__get__") (.builtin "object.__class__")) := mxFindData (by obtain ⟨cd, hc, _⟩ := any_some c4; rw [hc]; rfl) c5 c6 c7
  obtain ⟨m, g, dr, t, os⟩ := s
  have A0 := I.type (M := model prog w)
  have A1 := looks_findIn (M := model prog w) X c1
  have A2 := looks_findIn (M := model prog w) X c2
  have A3 := looks_find (M := model prog w) X I found
  have isB : Looks (model prog w) m (isInstance (.ref x) (.type "BaseException")) true := A0.andThen (looks_subIn X c3)
  have n0 : (false && onTheHeap (Value.builtin "BaseException.__getattribute__")) = false := rfl
  have n2 : (Value.builtin "BaseException.__getattribute__" == Value.builtin "object.__getattribute__") = false := by decide +kernel
  have n1 : (onTheHeap (Value.ref D) && Value.builtin "BaseException.__getattribute__" == Value.builtin "object.__getattribute__") = false := by rw [n2]; rfl
  unfold getAttr? getAttrBy? getAttrBy
  refine wpAny_bind (wpAny_mkText (wpAny_bind (wpAny_attempt (wpAny_holding (wpAny_bind (A0.at (wpAny_bind (A1.at ?_))))))))
  show wpAny _ _ (if (onTheHeap (Value.ref D) && Value.builtin "BaseException.__getattribute__" == Value.builtin "object.__getattribute__") = true then _ else _) _ _ _
  rw [n1, if_neg Bool.false_ne_true]
  unfold getAttrByItsOwn hookBefore
  refine wpAny_bind ?_
  rw [if_pos (show onTheHeap (Value.ref D) = true from rfl)]
  refine A2.at (wpAny_bind (wpAny_attempt (wpAny_holding ?_)))
  unfold callGetattribute
  rw [n0, if_neg Bool.false_ne_true]
  unfold boundAndCalled
  rw [PySem.F.excAttr_ValueError.ga.bind (.ref x)]
  refine wpAny_bind (wpAny_pure ?_)
  show wpAny _ _ (call (.builtin "BaseException.__getattribute__") [.ref x, .str "__class__" t]) _ _ _
  refine wpAny_call (codeAny_call_builtin PySem.F.excAttr_ValueError.ga.plain PySem.F.entry_bexc_ga ?_)
  refine @check_slot (model prog w) _ _ ⟨m, g, dr, t + 1, os⟩ "BaseException.__getattribute__" "BaseException" "__getattribute__" (.ref x) [.str "__class__" t] [] _ (by decide +kernel) (by decide +kernel) isB (PySem.F.args_bexc_ga (.ref x) (.str "__class__" t)) ?_
  unfold Builtin.«object.__getattribute__»
  refine wpAny_bind (wpAny_of_eq (a := ((Value.ref x : Value), [Value.str "__class__" t])) (by first | rfl | (simp only [slotArgs]; rfl)) ?_)
  refine wpAny_bind (wpAny_pure (wpAny_bind (A0.at (wpAny_bind (A3.at ?_)))))
  show wpAny _ _ (holding [Value.builtin "object.__class__"] (call (.builtin "getset_descriptor.__get__") [.builtin "object.__class__", .ref x, .ref D]) >>= ret) _ _ _
  refine wpAny_bind (wpAny_holding (wpAny_call (class_get (s := ⟨m, g, dr, t + 1, os⟩) (ox := ox) (od := od) X I c8 ?_)))
  refine wpAny_pure ?_
  show wpAny _ _ (handedOut (.ref D)) _ _ _
  rw [handedOut_of (v := .ref D) rfl]
  first
    | exact wpAny_pure (wpAny_pure h)
    | exact wpAny_pure h
    | exact wpAny_pure (wpAny_bind (wpAny_pure (wpAny_pure h)))
theorem mxKitE (C : L2.ExcC K D) : KitX K (.ref x) (.ref D) (fun h => InstAt h x ox D od) where
  ty := fun _ _ _ I => I.type
  it := fun _ _ X _ => by
    obtain ⟨cd, hc, _⟩ := any_some C.hd
    unfold clsIn at hc
    split at hc
    · rename_i ho
      intro A' Q' E' s' k q
      unfold isType loadHead
      exact wpAny_bind (wpAny_loadPart (k _ _ (X _ _ ho)) (wpAny_pure q))
    · cases hc
  ne := fun h tp dd its n sl X htp => by
    obtain ⟨cd, hc, _⟩ := any_some C.hd
    refine Bool.eq_false_iff.mpr fun q => ?_
    have e : D = tp := Value.ref.inj (beq_iff_eq.mp q)
    subst e
    unfold clsIn at hc
    split at hc
    · rename_i ho
      have z := (X _ _ ho).symm.trans htp
      cases z
    · cases hc
  ca := fun X I k => mxKinClass C X I k
end
end PySem.W
namespace Mx
open PySem L2 PySem.Spec PyProof.Rows NdefX
section
variable {X : Cx} {a : Addr} {oe : Obj} {cls : Value} {d : Option Addr} {pn : List (Addr × Obj)}
def rIsX (K : PySem.W.Frag) (a : Addr) (cls : Value) (d : Option Addr) : List V → Hp → VK → Prop := fun xs H Q => ∃ (c : V) (cv : Value) (b : Bool) (D : Addr), xs = [.ref a, c] ∧ cls = .ref D ∧ ExcC K D ∧ (d = none ∨ ∃ dd vs, d = some dd ∧ H dd = some (.xd vs)) ∧ (∀ u, RelV c u → u = cv) ∧ PySem.W.kitOne K (.ref D) cv = some b ∧ Q (.bl b) H
theorem call_isX (hz : Zc cls d oe) (hf : ∃ vs, oe.data = .fields vs) : CallR (X.suite a ((a, oe) :: pn)) (.builtin "isinstance") (rIsX X.K a cls d) := by
  intro pins s σ H xs us Q I r h
  obtain ⟨c, cv, b, D, rfl, rfl, C, hd, hcv, e, q⟩ := h
  cases r with
  | cons rx rr =>
    cases rr with
    | cons rt rr =>
      cases rr
      cases rx
      have ec := hcv _ rt
      subst ec
      obtain ⟨hget, _⟩ := I.pin (a, oe) (List.mem_append.mpr (.inl List.mem_cons_self))
      obtain ⟨vs, hv⟩ := hf
      have J : ∃ od, PySem.W.InstAt s.heap a oe D od := by
        rcases hd with rfl | ⟨dd, us, rfl, hH⟩
        · exact ⟨none, hget, hz.1, by unfold PySem.W.notCls; rw [hv] <;> rfl, by rw [hz.2]; trivial⟩
        · obtain ⟨mA, hns, _⟩ := (show ObjOk X.prog X.w H s.heap dd (.xd us) from I.hok dd _ hH)
          obtain ⟨od, ho, _⟩ := lookIn_ns hns
          exact ⟨some od, hget, hz.1, by unfold PySem.W.notCls; rw [hv] <;> rfl, by rw [hz.2]; exact ho⟩
      obtain ⟨od, J⟩ := J
      exact PySem.W.kia_one (PySem.W.mxKitE C) I.kIn J e (fun z => nomatch z) fun tk => ⟨.bl b, H, I.kept (t' := tk) fun _ _ z => z, rfl, q⟩
end
/-- e.f in an except suite, slot i is e's -/
def mErr (c : Str) (i : Nat) (f : Str) : Sem := fun ρ S => match ρ.xc with
  | some (j, e) => if j = i ∧ e.cls = c then (match e.fs.lookup f with
    | some d => .ok d S
    | none => .bad) else .bad
  | none => .bad
/-- isinstance(e, C) there -/
def mIsE (i : Nat) (p : SubF) : Sem := fun ρ S => match ρ.xc with
  | some (j, e) => if j = i then (match p e.cls with
    | some b => .ok (.bl b) S
    | none => .bad) else .bad
  | none => .bad
def KitOk (K : PySem.W.Frag) (cv : Value) (p : SubF) : Prop := ∀ d b, p d = some b → PySem.W.kitOne K (.ref (He.ga K d)) cv = some b ∧ ExcC K (He.ga K d)
section
variable {X : Cx} {a : Addr} {oe : Obj} {cls : Value} {d : Option Addr} {pn : List (Addr × Obj)} {W : WX}
theorem me_err {c f n : Str} {i : Nat} {pos p : Pos} (hz : Zc cls d oe) (hf : ∃ vs, oe.data = .fields vs) (T : XfC X.K (He.ga X.K c)) (hno : PySem.W.findIn X.K (.ref (He.ga X.K c)) f = some none) (hN : X.N[i]? = some n := by rfl)
    (hv : Vis X.env.scope n := by first | exact Or.inl rfl | exact Or.inr (Or.inl rfl) | exact Or.inr (Or.inr rfl)) (hd : (n == ("__debug__" : Str)) = false := by decide)
    (hcd : (n == ("__classdict__" : Str)) = false := by decide) (hb : attributeBase (.Name n p) f X.env (eval (.Name n p) X.env) = eval (.Name n p) X.env := by rfl) : ME (X.suite a ((a, oe) :: pn)) (some (a, cls, d)) W (.Attribute (.Name n p) f pos) (mErr c i f) := by
  refine (pe_xf T hno hz hf (pe_var (X := X.suite a ((a, oe) :: pn)) (i := i) hN hv hd hcd) hb).weak fun σ H Q ⟨ι, ρ, S, r, s, h⟩ => ?_
  unfold mErr at h
  split at h
  · rename_i j e hx
    split at h
    · rename_i hj
      obtain ⟨rfl, hc⟩ := hj
      obtain ⟨a', dd, e1, rx, e3⟩ := r.xc j e hx
      cases e1
      refine ⟨.ref a, e3, rfl, by rw [hc], ?_⟩
      split at h
      · rename_i y hy
        rcases rx with ⟨e0, _⟩ | ⟨dp, vs, rfl, hH, rf⟩
        · rw [e0] at hy; cases hy
        · obtain ⟨v, hv, rv⟩ := rf.get hy
          exact ⟨dp, vs, v, rfl, hH, hv, h.give s rv⟩
      · exact h.elim
    · exact h.elim
  · exact h.elim
theorem me_isE {c n : Str} {cv : Value} {i : Nat} {p : SubF} {pos p0 p1 p2 : Pos} (hz : Zc cls d oe) (hf : ∃ vs, oe.data = .fields vs) (kp : KitOk X.K cv p) (hm : X.mg "isinstance" = none) {vc : V} (hcl : PE (X.suite a ((a, oe) :: pn)) (.Name c p2) (tC vc)) (hvc : ∀ u, RelV vc u → u = cv) (hN : X.N[i]? = some n := by rfl)
    (hv : Vis X.env.scope n := by first | exact Or.inl rfl | exact Or.inr (Or.inl rfl) | exact Or.inr (Or.inr rfl)) (hd : (n == ("__debug__" : Str)) = false := by decide)
    (hcd : (n == ("__classdict__" : Str)) = false := by decide) (hg : Gl X "isinstance" := by rfl) (he : starEach [.Name n p1, .Name c p2] X.env = (false, eval (.Name n p1) X.env) :: starEach [.Name c p2] X.env := by rfl)
    (he2 : starEach [.Name c p2] X.env = (false, eval (.Name c p2) X.env) :: starEach [] X.env := by rfl) (hpl : (backTo pos (starEach [.Name c p2] X.env)).any (·.1) = false := by rfl) :
    ME (X.suite a ((a, oe) :: pn)) (some (a, cls, d)) W (.Call (.Name "isinstance" p0) [.Name n p1, .Name c p2] [] pos) (mIsE i p) := by
  have hA : PA (X.suite a ((a, oe) :: pn)) [.Name n p1, .Name c p2] (tCons (tVar i) (tCons (tC vc) tNil)) := pa_cons (pe_var hN hv hd hcd) (pa_cons hcl pa_nil he2) he
  refine (pe_callB (call_isX (X := X) (pn := pn) hz hf) (by exact hg) (by exact hm) PyProof.Rows.Boot.«isinstance» hA (by decide) (by decide) he hpl).weak fun σ H Q ⟨ι, ρ, S, r, s, h⟩ => ?_
  unfold mIsE at h
  split at h
  · rename_i j e hx
    split at h
    · rename_i hj
      subst hj
      obtain ⟨a', dd, e1, rx, e3⟩ := r.xc j e hx
      cases e1
      split at h
      · rename_i b hp
        obtain ⟨k1, k2⟩ := kp _ _ hp
        refine ⟨.ref a, e3, vc, cv, b, He.ga X.K e.cls, rfl, rfl, k2, ?_, hvc, k1, h.give s (by simp [RelD])⟩
        rcases rx with ⟨_, e0⟩ | ⟨dp, vs, e0, hH, _⟩
        · exact .inl e0
        · exact .inr ⟨dp, vs, e0, hH⟩
      · exact h.elim
    · exact h.elim
  · exact h.elim
end
end Mx

set_option maxHeartbeats 1000000
namespace PySem
open Sem (wp)
theorem mxEnumNew {v : Value} {o : Obj} {H : Heap → Prop} (B : Begins v o H) :
    Meets (Builtin.«enumerate.__new__» ⟨[.type "enumerate", v], []⟩) (fun _ R s => H s.heap ∧
      R (.ok (.ret (.ref (s.heap.push o).objs.size))) { s with heap := (s.heap.push o).push { cls := .type "enumerate", data := .fields #[.none, .bool false, .ref s.heap.objs.size, rawInt 0, .none, .none] } }) :=
  .of_wp fun prog w A R s hh => by
    obtain ⟨m, g, d, tk, os⟩ := s
    obtain ⟨h1, hh⟩ := hh
    have hsub := sub_enumerate
    have begun : ∀ {A' : Around} {E : Value → Shared → Prop} {Q : Value → Shared → Prop}, Q (.ref m.objs.size) ⟨m.push o, g, d, tk, os⟩ → wpAny (model prog w) A' (pyIter v) Q E ⟨m, g, d, tk, os⟩ :=
      fun q => B.iter prog w _ _ ⟨m, g, d, tk, os⟩ _ h1 q
    wp_walk using begun
    refine wpAny_stack_any fun st => wpAny_pure ?_
    split
    · rename_i c _ _ _ _ _
      cases (c == Value.type "enumerate")
      · wp_walk using begun
        exact ⟨_, rfl, hh⟩
      · wp_walk using begun
        exact ⟨_, rfl, hh⟩
    · wp_walk using begun
      exact ⟨_, rfl, hh⟩
theorem mxEnumCall {prog : Program} {w : World} {A : Around} {E : Value → Shared → Prop} {s : Shared} {v : Value} {o : Obj} {H : Heap → Prop} {Q : Value → Shared → Prop} (B : Begins v o H) (h1 : H s.heap)
    (h : ∀ m', IsEnum m' (s.heap.objs.size + 1) s.heap.objs.size 0 .none → m'.get? s.heap.objs.size = some o → (∀ b u, s.heap.get? b = some u → m'.get? b = some u) → Q (.ref (s.heap.objs.size + 1)) { s with heap := m' }) :
    wpAny (model prog w) A (call (.type "enumerate") [v]) Q E s := by
  refine callType_new F.called_enumerate (by decide) (F.typeCall_enumerate_1 _) (F.newCall_enumerate_1 _) (fun obj => F.args_object_init_2 obj _) F.entry_enumerate_new (mxEnumNew B) ⟨h1, ?_⟩
  have hz : (s.heap.push o).objs.size = s.heap.objs.size + 1 := Heap.size_push ..
  show _ ∧ _
  rw [hz]
  have he : IsEnum ((s.heap.push o).push { cls := .type "enumerate", data := .fields #[.none, .bool false, .ref s.heap.objs.size, rawInt 0, .none, .none] }) (s.heap.objs.size + 1) s.heap.objs.size 0 .none := by
    have q := Heap.get?_push_size (s.heap.push o) (o := { cls := .type "enumerate", data := .fields #[.none, .bool false, .ref s.heap.objs.size, rawInt 0, .none, .none] }) rfl
    rw [hz] at q; exact q
  exact ⟨⟨_, he, rfl⟩, h _ he (Heap.get?_push_of_some _ (Heap.get?_push_size _ B.free)) fun b u x => Heap.get?_push_of_some _ (Heap.get?_push_of_some _ x)⟩
end PySem
namespace Mx
open PySem L2 PySem.Spec PyProof.Rows
/-- the tuple at a, each item in a new pair -/
def Itx (K : PySem.W.Frag) (a : Addr) : It :=
  ⟨fun i H => ∃ (xs : List V) (x : V), SqT K H a xs ∧ xs[i]? = some x, fun i H v H' => ∃ T x, v = .ref T ∧ H T = none ∧ H' = upd H T (.tup [.int (i : Nat), x]) ∧ ∀ xs, SqT K H a xs → xs[i]? = some x, fun i H => ∃ xs : List V, SqT K H a xs ∧ xs.length = i⟩
theorem turn_enumT {P : Program} {w : World} {K : PySem.W.Frag} {elts : List Expr} {kk : Nat} {tpos : Pos} (a e it : Addr) :
    Turn P w K (.Tuple elts kk tpos) (Itx K a) [e, it] e (fun i h => (∃ old, IsEnum h e it ((i : Nat) : Int) old) ∧ h.IsTupleIter it a i ∧ e ≠ it) where
  mem := by simp
  obj := fun i h st b hb => by
    obtain ⟨⟨old, he⟩, ⟨o, ho, hc, hd⟩, _⟩ := st
    rcases (show b = e ∨ b = it by simpa using hb) with z | z
    · rw [z]; exact ⟨_, he, fun v q => nomatch q⟩
    · rw [z]; exact ⟨o, ho, fun v q => by rw [hd] at q; cases q⟩
  keep := fun i h h' st k => let ⟨⟨old, he⟩, hi, hne⟩ := st; ⟨⟨old, k e (by simp) _ he⟩, hi.at fun o q => k it (by simp) o q, hne⟩
  item := by
    intro X hP hw hK hc i pins s σ H E I hf st hg
    subst hP hw hK
    obtain ⟨⟨old, he⟩, hit, hne⟩ := st
    obtain ⟨xs, x, hq, hx⟩ := hg
    obtain ⟨its, rv, p, hz⟩ := I.tuple hq
    obtain ⟨u, hu, ru⟩ := rv.get hx
    have lte : e < s.heap.objs.size := Heap.lt_size he
    have lti : it < s.heap.objs.size := by obtain ⟨_, q, _⟩ := hit; exact Heap.lt_size q
    have ta : s.heap.IsTuple a its.toArray := p
    have nia : a ≠ it := fun z => by
      obtain ⟨o1, q1, c1, _⟩ := hit
      obtain ⟨o2, q2, c2, _⟩ := ta
      rw [z, q1] at q2; cases q2
      rw [c1] at c2
      injection c2 with c3
      exact absurd c3 (by decide)
    have nea : e ≠ a := fun z => by
      obtain ⟨o2, q2, c2, _⟩ := ta
      rw [← z, he] at q2; cases q2
      have c2 : Value.type "enumerate" = Value.type "tuple" := c2
      injection c2 with c3
      exact absurd c3 (by decide)
    have hlt : i < its.toArray.size := by
      have q := (List.getElem?_eq_some_iff.mp hu).1
      simpa using q
    refine wpAny_pyNext_enum_itemD (Draws.tuple (A := X.A.in1) (I.ok.hd hc) it a nia its.toArray) he ⟨hit, ta⟩ hlt hne (by simp [hne, nea]) fun x' h' tk hP ho st' hT hsz hk => ?_
    have ex : x' = u := by
      have hP : its.toArray[i]? = some x' := hP
      rw [List.getElem?_toArray, hu] at hP
      exact (Option.some.inj hP).symm
    subst ex
    refine ⟨_, rfl, wpAny_letOwnedTupleGo_enum (s := { s with heap := h', toks := tk + 1 }) ho fun h'' he' sb => ?_⟩
    have hT2 : h''.get? s.heap.objs.size = some { cls := .type "tuple", data := .seq #[.int i tk, x'] } := (sb.2 _ (Nat.ne_of_gt lte)).trans hT
    have new : ObjOk X.prog X.w (upd H s.heap.objs.size (.tup [.int (i : Nat), x])) h'' s.heap.objs.size (.tup [.int (i : Nat), x]) :=
      ⟨by show 2 ≤ sizeLine; decide, [.int i tk, x'], .cons ⟨_, rfl⟩ (.cons ru .nil), ⟨_, hT2, rfl, _, rfl⟩⟩
    have I1 : Inv X pins σ (upd H s.heap.objs.size (.tup [.int (i : Nat), x])) { s with heap := h'', toks := tk + 1 } :=
      I.turnedNew (ch := [e, it]) (fun b ob hb q => (sb.2 b (fun z => hb (by simp [z]))).trans (hk b ob (fun z => hb (by simp [z])) (fun z => hb (by simp [z])) q)) hf (Nat.le_refl _) new
    refine ⟨.ref s.heap.objs.size, _, I1, rfl, ⟨_, x, rfl, I.hok.fresh (Nat.le_refl _), rfl, fun ys hy => by rw [I.tuple_inj hy hq]; exact hx⟩, ⟨⟨x', ?_⟩, st'.1.at fun o q => (sb.2 it (Ne.symm hne)).trans q, hne⟩, fun b hb => ?_⟩
    · have e1 : ((i + 1 : Nat) : Int) = (i : Int) + 1 := by omega
      rw [e1]; exact he'
    · have hb' : b < s.heap.objs.size := by
        rcases (show b = e ∨ b = it by simpa using hb) with z | z
        · rw [z]; exact lte
        · rw [z]; exact lti
      rw [upd_ne (Nat.ne_of_lt hb')]
      exact (hf b hb).1
  done := by
    intro X hP hw hK hc i pins s σ H E I hf st hg
    subst hP hw hK
    obtain ⟨⟨old, he⟩, hit, hne⟩ := st
    obtain ⟨xs, hq, hx⟩ := hg
    obtain ⟨its, rv, p, hz⟩ := I.tuple hq
    obtain ⟨f0, f1, f2, f3, f4, f5⟩ := hf it (by simp)
    have ta : s.heap.IsTuple a its.toArray := p
    have nia : a ≠ it := fun z => by
      obtain ⟨o1, q1, c1, _⟩ := hit
      obtain ⟨o2, q2, c2, _⟩ := ta
      rw [z, q1] at q2; cases q2
      rw [c1] at c2
      injection c2 with c3
      exact absurd c3 (by decide)
    have hn : i = its.toArray.size := by
      rw [List.size_toArray, ← rv.length]; exact hx.symm
    subst hn
    exact wpAny_pyNext_enum_endD (Draws.tuple (A := X.A.in1) (I.ok.hd hc) it a nia its.toArray) he ⟨hit, ta⟩ fun h' eb => ⟨rfl, I.turned (t' := s.toks) (fun b o hb q => eb b o hb q) f0 f1 f3 f4 f5⟩
  self := fun A i s Q E st h => let ⟨⟨_, he⟩, _⟩ := st; wpAny_pyIter_enum he h
def iEnumT (K : PySem.W.Frag) (ta : TA) : TI := fun σ H R => ta σ H fun vs H1 => ∃ a xs, vs = [.ref a] ∧ SqT K H1 a xs ∧ R (Itx K a) H1
theorem pi_enumT {X : Cx} {e : Expr} {ta : TA} {p pos tpos : Pos} {elts : List Expr} {kk : Nat} (hg : Gl X "enumerate") (hm : X.mg "enumerate" = none) (ha : PA X [e] ta) (hs : starEach [e] X.env = [(false, eval e X.env)] := by rfl) :
    PI X (.Tuple elts kk tpos) (.Call (.Name "enumerate" p) [e] [] pos) (iEnumT X.K ta) := by
  refine ⟨fun pins s σ H R I h => ?_⟩
  refine Call_ (ld_blt I hg hm boot_enumerate (PyProof.Rows.callWith_type1 (thn (ha.run pos pins s σ H _ I h) fun us s1 ⟨vs, H1, I1, r1, a, xs, ex, hq, q⟩ => ?_) hs rfl))
  subst ex
  cases r1 with
  | cons r rr =>
    cases rr
    cases r
    obtain ⟨its, rv, p', hz⟩ := I1.tuple hq
    refine mxEnumCall (begins_tuple a its.toArray) p' fun h' he hit hk => wpAny_pyIter_enum he ?_
    have I2 : Inv X pins σ H1 { s1 with heap := h' } := I1.kept (t' := s1.toks) hk
    refine ⟨s1.heap.objs.size + 1, [s1.heap.objs.size + 1, s1.heap.objs.size], _, _, H1, rfl, I2, turn_enumT a (s1.heap.objs.size + 1) s1.heap.objs.size, ⟨⟨.none, he⟩, ⟨_, hit, rfl, rfl⟩, Nat.succ_ne_self _⟩, fun b hb => ?_, q⟩
    have above : s1.heap.objs.size ≤ b := by
      rcases (show b = s1.heap.objs.size + 1 ∨ b = s1.heap.objs.size by simpa using hb) with z | z
      · rw [z]; exact Nat.le_add_right _ _
      · rw [z]; exact Nat.le_refl _
    exact I1.fpOk above (I1.hok.fresh above)
/-- enumerate of a tuple or a list -/
def itE (a : Sem) : SemI := fun ρ S => (a ρ S).bind fun x S => match x with
  | .tup ds => .ok ⟨ds.length, fun i _ => (ds[i]?).map fun d => .tup [.int i, d], fun _ => true⟩ S
  | _ => .bad
theorem walkE {K : PySem.W.Frag} {ι : List Addr} {H : Hp} {a : Addr} {vs : List V} {ds : List D} (h : SqT K H a vs) (r : RelDs K ι H ds vs) : WalkM K ι H ⟨ds.length, fun i _ => (ds[i]?).map fun d => .tup [.int i, d], fun _ => true⟩ (Itx K a) := fun ι' S' H' p g s => by
  have h' := SqT.grow g h
  have r' := RelDs.mono p g r
  refine ⟨fun i d hi e => ?_, fun _ => ⟨vs, h', r.length.symm⟩⟩
  have e : (ds[i]?).map (fun d => D.tup [.int i, d]) = some d := e
  obtain ⟨d0, e0, rfl⟩ := Option.map_eq_some_iff.mp e
  obtain ⟨v, hv, rv⟩ := r'.get e0
  refine ⟨⟨vs, v, h', hv⟩, fun x H2 hy => ?_⟩
  obtain ⟨T, y, rfl, hT, rfl, hall⟩ := hy
  have q := hall vs h'
  rw [hv] at q; cases q
  have gn : Gr H' (upd H' T (.tup [.int (i : Nat), v])) := Gr.new hT
  refine ⟨gn, s.new hT, ?_⟩
  unfold RelD
  refine ⟨T, _, rfl, SqT.of upd_same, .int (i : Nat), _, rfl, ?_, v, [], rfl, rv.mono (List.prefix_refl _) gn, rfl⟩
  simp [RelD]
theorem mi_enumT {X : Cx} {xc : XcP} {W : WX} {e : Expr} {f : Sem} {p pos tpos : Pos} {elts : List Expr} {kk : Nat} (h : ME X xc W e f) (hm : X.mg "enumerate" = none) (hg : Gl X "enumerate" := by rfl) (hs : starEach [e] X.env = [(false, eval e X.env)] := by rfl) :
    MI X xc W (.Tuple elts kk tpos) (.Call (.Name "enumerate" p) [e] [] pos) (itE f) := by
  refine (pi_enumT hg hm (pa_cons h pa_nil (by rw [hs]; rfl)) hs).weak fun σ H R ⟨ι, ρ, S, r, s, q⟩ => ?_
  refine TE.sub (tM_bind r s q) ?_
  rintro v H1 ⟨ι1, d1, S1, p1, g1, re1, s1, rd, h1⟩
  split at h1
  · rename_i ds
    unfold RelD at rd
    obtain ⟨a, vs, rfl, hs', rds⟩ := rd
    exact ⟨a, vs, rfl, hs', h1.give s1 (walkE hs' rds)⟩
  · exact h1.elim
end Mx

set_option maxHeartbeats 1000000
namespace Mx
open PySem L2 PySem.Spec PyProof.Rows
section
variable {X : Cx} {xc : XcP} {W : WX} {a b c e : Expr} {es : List Expr} {pos : Pos} {k j : Nat}
theorem me_chain {o o' : CmpOp} {op op' : D → D → Sto → R D} {fa fb fc : Sem} (h1 : OpM X (compareOp o) op) (h2 : OpM X (compareOp o') op') (ha : ME X xc W a fa) (hb : ME X xc W b fb) (hc : ME X xc W c fc)
    (hm : lastMarks [o, o'] [b, c] = false := by with_unfolding_all rfl) : ME X xc W (.Compare a [o, o'] [b, c] pos) (mChain op op' fa fb fc) := by
  obtain ⟨r, k1, k2⟩ := h1
  obtain ⟨r', k3, k4⟩ := h2
  exact (pe_chain k1 k3 ha hb hc hm).weak fun σ H Q h => chain_weak k2 k4 σ H Q h
theorem mt_chain {o o' : CmpOp} {op op' : D → D → Sto → R D} {fa fb fc : Sem} (h1 : OpM X (compareOp o) op) (h2 : OpM X (compareOp o') op') (ha : ME X xc W a fa) (hb : ME X xc W b fb) (hc : ME X xc W c fc)
    (hm : lastMarks [o, o'] [b, c] = false := by with_unfolding_all rfl) : MT X xc W (.Compare a [o, o'] [b, c] pos) (tB (mChain op op' fa fb fc)) := by
  obtain ⟨r, k1, k2⟩ := h1
  obtain ⟨r', k3, k4⟩ := h2
  refine (pt_chain k1 k3 ha hb hc hm).weak fun σ H Q ⟨ι, ρ, S, re, s, h⟩ => ?_
  refine chain_weak k2 k4 σ H _ ⟨ι, ρ, S, re, s, (post_bind h).imp ?_⟩
  rintro v H1 ⟨ι1, d1, S1, p1, g1, s1, rd1, h1⟩
  split at h1
  · rename_i b
    have e : v = .bl b := by simpa [RelD] using rd1
    subst e
    exact ⟨b, rfl, h1.give s1 rfl⟩
  · exact h1.elim
/-! ### names of classes -/
theorem me_ty {x : Str} {T : String} {p : Pos} (hm : X.mg x = none) (hv : bootBuiltins x = some (.type T)) (hg : Gl X x := by rfl) (hn : x ≠ "__name__" := by decide) (hd : (x == ("__debug__" : Str)) = false := by decide) : ME X xc W (.Name x p) (mC (.ty T)) :=
  const_weak (pe_bltn hg hm hv (v := .ty T) rfl hn hd) fun _ _ => by simp [RelD]
theorem me_cls {x : Str} {p : Pos} (hm : X.mg x = some (.ref (He.ga X.K x))) (hg : Gl X x := by rfl) (hd : (x == ("__debug__" : Str)) = false := by decide) : ME X xc W (.Name x p) (mC (.cls x)) :=
  me_gref hm (fun _ _ => by simp [RelD]) hg hd
/-! ### isinstance -/
inductive Ty where
  | b (n : String) | o (c : Str)
def tyOf (S : Sto) : D → Option Ty
  | .non => some (.b "NoneType")
  | .bl _ => some (.b "bool")
  | .int _ => some (.b "int")
  | .str _ => some (.b "str")
  | .tup _ => some (.b "tuple")
  | .ref n => (match S[n]? with
    | some (.lst _) => some (.b "list")
    | some (.dic _ _) => some (.b "dict")
    | some (.ins c _) => some (.o c)
    | none => none)
  | _ => none
def isB (t n : String) : Option Bool := if (["int", "bool", "str", "tuple", "list", "dict"].contains n) = true then some (decide (t = n) || (decide (t = "bool") && decide (n = "int"))) else none
def fIsi (cs : List Str) : Fn := fun ds S => match ds with
  | [x, .ty n] => (match tyOf S x with
    | some (.b t) => (match isB t n with
      | some r => .ok (.bl r) S
      | none => .bad)
    | _ => .bad)
  | [x, .cls c] => if cs.contains c = true then (match tyOf S x with
    | some (.b _) => .ok (.bl false) S
    | some (.o c') => if c' = c then .ok (.bl true) S else .bad
    | none => .bad) else .bad
  | _ => .bad
def blts : List String := ["NoneType", "bool", "int", "str", "tuple", "list", "dict"]
/-- a class that the module's isinstance asks for -/
structure OwnC (K : PySem.W.Frag) (c : Str) : Prop where
  ins : C8.InsC K (He.ga K c)
  no : ∀ t ∈ blts, PySem.W.kitOne K (.type t) (.ref (He.ga K c)) = some false
theorem isB_kit {t n : String} {r : Bool} (ht : t ∈ blts) (h : isB t n = some r) : kitB t n = some r := by
  have key : ∀ t ∈ blts, ∀ n ∈ ["int", "bool", "str", "tuple", "list", "dict"], kitB t n = isB t n := by decide +kernel
  have hn : n ∈ ["int", "bool", "str", "tuple", "list", "dict"] := by
    unfold isB at h
    split at h
    · rename_i hc
      simpa using hc
    · cases h
  rw [key t ht n hn]; exact h
theorem tyOf_b {K : PySem.W.Frag} {ι : List Addr} {H : Hp} {S : Sto} {d : D} {v : V} {t : String} (s : Sim K ι S H) (rd : RelD K ι H d v) (h : tyOf S d = some (.b t)) : t ∈ blts ∧ TyX K H v (.type t) := by
  unfold tyOf at h
  split at h
  · cases h
    obtain rfl : v = .non := by simpa [RelD] using rd
    exact ⟨by decide, .base .non⟩
  · rename_i b
    cases h
    obtain rfl : v = .bl b := by simpa [RelD] using rd
    exact ⟨by decide, .base (.bl b)⟩
  · rename_i i
    cases h
    obtain rfl : v = .int i := by simpa [RelD] using rd
    exact ⟨by decide, .base (.int i)⟩
  · rename_i i
    cases h
    obtain rfl : v = .str i := by simpa [RelD] using rd
    exact ⟨by decide, .base (.str i)⟩
  · cases h
    unfold RelD at rd
    obtain ⟨a, vs, rfl, hs, _⟩ := rd
    refine ⟨by decide, ?_⟩
    rcases hs with (hs | ⟨o, hs⟩) | ⟨o, its, n, hk, hc, _⟩
    · exact .base (.tup hs)
    · exact .fTuple hs
    · exact .kTuple hk hc
  · obtain ⟨a, ha, rfl⟩ := rd.ref_of
    split at h
    · rename_i hS
      cases h
      obtain ⟨vs, hH, _⟩ := s.is ha hS
      exact ⟨by decide, .base (.lst hH)⟩
    · rename_i lk kvs hS
      cases h
      obtain ⟨vs, hH, _⟩ := s.is ha hS
      cases lk with
      | true =>
        obtain ⟨o, hH⟩ : ∃ o, H a = some (.frz o (.dK vs)) := by simpa using hH
        exact ⟨by decide, .fDict hH⟩
      | false =>
        have hH : H a = some (.dK vs) := by simpa using hH
        exact ⟨by decide, .base (.dK hH)⟩
    · cases h
    · cases h
  · cases h
theorem tyOf_o {K : PySem.W.Frag} {ι : List Addr} {H : Hp} {S : Sto} {d : D} {v : V} {c : Str} (s : Sim K ι S H) (rd : RelD K ι H d v) (h : tyOf S d = some (.o c)) : ∃ a dx vs, v = .ref a ∧ H a = some (.ins (He.ga K c) dx vs) := by
  unfold tyOf at h
  split at h
  all_goals first | cases h; done | skip
  obtain ⟨a, ha, rfl⟩ := rd.ref_of
  split at h
  all_goals first | cases h; done | skip
  rename_i c' fs hS
  cases h
  obtain ⟨dx, vs, hH, _⟩ := s.is ha hS
  exact ⟨a, dx, vs, rfl, hH⟩
theorem cm_isi {cs : List Str} (hO : ∀ c ∈ cs, OwnC X.K c) : CallM X (.builtin "isinstance") (fIsi cs) := ⟨_, call_isi, fun ι H S a v Q E s ra q => by
  unfold fIsi at q
  split at q
  · rename_i x n
    obtain ⟨u, r, rfl, r1, r2⟩ := ra.cons_of
    obtain ⟨w, r', rfl, r3, r4⟩ := r2.cons_of
    obtain rfl := r4.nil_of
    obtain rfl : w = .ty n := by simpa [RelD] using r3
    split at q
    · rename_i t ht
      obtain ⟨hb, ty⟩ := tyOf_b s r1 ht
      split at q
      · rename_i r hr
        exact ⟨u, .ty n, .type t, .type n, r, rfl, .ty n, ty, kit_ty (isB_kit hb hr), q.give s (by simp [RelD])⟩
      · exact q.elim
    · exact q.elim
  · rename_i x c
    obtain ⟨u, r, rfl, r1, r2⟩ := ra.cons_of
    obtain ⟨w, r', rfl, r3, r4⟩ := r2.cons_of
    obtain rfl := r4.nil_of
    obtain rfl : w = .ref (He.ga X.K c) := by simpa [RelD] using r3
    split at q
    · rename_i hc
      have O := hO c (by simpa using hc)
      split at q
      · rename_i t ht
        obtain ⟨hb, ty⟩ := tyOf_b s r1 ht
        exact ⟨u, _, .type t, _, false, rfl, .own _, ty, O.no t hb, q.give s (by simp [RelD])⟩
      · rename_i c' ht
        split at q
        · rename_i e
          subst e
          obtain ⟨a, dx, vs, rfl, hH⟩ := tyOf_o s r1 ht
          exact ⟨_, _, _, _, true, rfl, .own _, .base (.ins hH O.ins.cl O.ins.ha O.ins.hn O.ins.htk O.ins.hm), O.ins.me, q.give s (by simp [RelD])⟩
        · exact q.elim
      · exact q.elim
    · exact q.elim
  · exact q.elim⟩
end
end Mx

set_option maxHeartbeats 1000000
namespace Mx
open PySem L2 PySem.Spec PyProof.Rows
/-! ### methods of built-in types -/
def tyB (T : String) (S : Sto) : D → Bool
  | .str _ => T == "str"
  | .ref n => (match S[n]? with
    | some (.lst _) => T == "list"
    | some (.dic false _) => T == "dict"
    | _ => false)
  | _ => false
def mBM (T : String) (op : D → List D → Sto → R D) (o : Sem) (as : SemA) : Sem := fun ρ S => (o ρ S).bind fun x S => if tyB T S x = true then (as ρ S).bind fun ds S => op x ds S else .bad
def MtX (X : Cx) (id : String) (op : D → List D → Sto → R D) : Prop :=
  ∃ r, MtR X id r ∧ ∀ (ι : List Addr) (H : Hp) (S : Sto) (a : D) (v : V) (ds : List D) (vs : List V) (Q : VK) (E : XK), Sim X.K ι S H → RelD X.K ι H a v → RelDs X.K ι H ds vs → PostD X.K ι H (op a ds S) Q E → r v vs H Q
theorem tyB_V {K : PySem.W.Frag} {ι : List Addr} {H : Hp} {S : Sto} {T : String} {d : D} {v : V} (s : Sim K ι S H) (rd : RelD K ι H d v) (h : tyB T S d = true) : tyV K T v H := by
  unfold tyB at h
  split at h
  · rename_i x
    obtain rfl : v = .str x := by simpa [RelD] using rd
    exact beq_iff_eq.mp h
  · rename_i n
    obtain ⟨a, ha, rfl⟩ := rd.ref_of
    split at h
    · rename_i hS
      obtain ⟨vs, hH, _⟩ := s.is ha hS
      exact .inl ⟨beq_iff_eq.mp h, vs, SqL.of hH⟩
    · rename_i hS
      obtain ⟨vs, hH, _⟩ := s.is ha hS
      exact .inr (.inr (.inl ⟨beq_iff_eq.mp h, .inl ⟨vs, by simpa using hH⟩⟩))
    · cases h
  · cases h
section
variable {X : Cx} {xc : XcP} {W : WX} {o e : Expr} {es : List Expr} {name : Str} {apos cpos : Pos} {T id : String} {op : D → List D → Sto → R D} {fo : Sem} {fa : SemA}
theorem me_bm (pa : PlainAttrs T) (slot : Slot T name id) (hty : typeOf (.builtin id) = pure (.type "method_descriptor")) (hm : MtX X id op) (ho : ME X xc W o fo) (ha : MA X xc W (e :: es) fa)
    (hbase : attributeBase o name X.env (eval o X.env) = eval o X.env := by rfl)
    (hfew : ((backTo cpos (starEach (e :: es) X.env)).all (fun x => !x.1) && (backToKw cpos (keywordEach [] X.env)).all (fun x => x.1.isSome)
      && decide ((e :: es).length + ([] : List Keyword).length + (if ([] : List Keyword).isEmpty then 0 else 1) < 30)) = true := by rfl)
    (hline : (apos.endLine == cpos.line) = true := by rfl) (hs : starEach (e :: es) X.env = (false, eval e X.env) :: starEach es X.env := by rfl) (hplain : (backTo cpos (starEach es X.env)).any (·.1) = false := by rfl) :
    ME X xc W (.Call (.Attribute o name apos) (e :: es) [] cpos) (mBM T op fo fa) := by
  obtain ⟨r, h1, h2⟩ := hm
  refine (pe_bm pa slot hty h1 ho ha hbase hfew hline hs hplain).weak fun σ H Q ⟨ι, ρ, S, re, s, h⟩ => ?_
  refine TE.sub (tM_bind re s h) ?_
  rintro v H1 ⟨ι1, d1, S1, p1, g1, re1, s1, rd1, q1⟩
  split at q1
  · rename_i ht
    refine ⟨tyB_V s1 rd1 ht, TA.sub (tMA_bind re1 s1 q1) ?_⟩
    rintro vs H2 ⟨ι2, ds, S2, p2, g2, re2, s2, rd2, q2⟩
    exact h2 ι2 H2 S2 d1 v ds vs Q _ s2 (rd1.mono p2 g2) rd2 q2
  · exact q1.elim
theorem me_bm0 (pa : PlainAttrs T) (slot : Slot T name id) (hty : typeOf (.builtin id) = pure (.type "method_descriptor")) (hm : MtX X id op) (ho : ME X xc W o fo)
    (hbase : attributeBase o name X.env (eval o X.env) = eval o X.env := by rfl) (hline : (apos.endLine == cpos.line) = true := by rfl) :
    ME X xc W (.Call (.Attribute o name apos) [] [] cpos) (mBM T op fo aNil) := by
  obtain ⟨r, h1, h2⟩ := hm
  refine (pe_bm0 pa slot hty h1 ho hbase hline).weak fun σ H Q ⟨ι, ρ, S, re, s, h⟩ => ?_
  refine TE.sub (tM_bind re s h) ?_
  rintro v H1 ⟨ι1, d1, S1, p1, g1, re1, s1, rd1, q1⟩
  split at q1
  · rename_i ht
    exact ⟨tyB_V s1 rd1 ht, h2 ι1 H1 S1 d1 v [] [] Q _ s1 rd1 rfl q1⟩
  · exact q1.elim
end
section
variable {X : Cx}
def fApp : D → List D → Sto → R D := fun x ds S => match x, ds with
  | .ref n, [d] => (match S[n]? with
    | some (.lst es) => if es.length < sizeLine then .ok .non (S.set n (.lst (es ++ [d]))) else .bad
    | _ => .bad)
  | _, _ => .bad
theorem Post.put {K : PySem.W.Frag} {ι : List Addr} {H : Hp} {S : Sto} {n : Nat} {a : Addr} {o u : HO} {ob : Ob} {d : D} {v : V} {Q : VK} {E : XK} (s : Sim K ι S H) (h : ι[n]? = some a) (hu : H a = some u) (hi : ¬ Imm u) (r : RelOb K ι (upd H a o) a ob)
    (rd : RelD K ι (upd H a o) d v) (q : PostD K ι H (.ok d (S.set n ob)) Q E) : Q v (upd H a o) := q ι v _ (List.prefix_refl _) (Gr.put hu hi) (s.put h hu hi r) rd
theorem mx_app : MtX X "list.append" fApp := ⟨_, mt_append, fun ι H S a v ds vs Q E s ra rd q => by
  unfold fApp at q
  split at q
  · rename_i n d
    obtain ⟨p, hp, rfl⟩ := ra.ref_of
    obtain ⟨u, r, rfl, r1, r2⟩ := rd.cons_of
    obtain rfl := r2.nil_of
    split at q
    · rename_i es hS
      split at q
      · rename_i hl
        obtain ⟨ws, hH, rs⟩ := s.is hp hS
        have g : Gr H (upd H p (.lst (ws ++ [u]))) := Gr.put hH fun z => z
        exact ⟨p, ws, u, rfl, rfl, hH, by rw [← rs.length]; exact hl, Post.put (ob := .lst (es ++ [d])) s hp hH (fun z => z) ⟨_, upd_same, RelDs.snoc (rs.mono (List.prefix_refl _) g) (r1.mono (List.prefix_refl _) g)⟩ (by simp [RelD]) q⟩
      · exact q.elim
    · exact q.elim
  · exact q.elim⟩
def fExt : D → List D → Sto → R D := fun x ds S => match x, ds with
  | .ref n, [.ref m] => (match S[n]?, S[m]? with
    | some (.lst es), some (.lst fs) => if es.length + fs.length ≤ sizeLine then .ok .non (S.set n (.lst (es ++ fs))) else .bad
    | _, _ => .bad)
  | _, _ => .bad
theorem mx_ext : MtX X "list.extend" fExt := ⟨_, mt_extend, fun ι H S a v ds vs Q E s ra rd q => by
  unfold fExt at q
  split at q
  · rename_i n m
    obtain ⟨p, hp, rfl⟩ := ra.ref_of
    obtain ⟨u, r, rfl, r1, r2⟩ := rd.cons_of
    obtain rfl := r2.nil_of
    obtain ⟨b, hb, rfl⟩ := r1.ref_of
    split at q
    · rename_i es fs h1 h2
      split at q
      · rename_i hl
        obtain ⟨ws, hH, rs⟩ := s.is hp h1
        obtain ⟨zs, hH2, rt⟩ := s.is hb h2
        have g : Gr H (upd H p (.lst (ws ++ zs))) := Gr.put hH fun z => z
        exact ⟨p, b, ws, zs, rfl, rfl, hH, hH2, by rw [← rs.length, ← rt.length]; exact hl, Post.put (ob := .lst (es ++ fs)) s hp hH (fun z => z) ⟨_, upd_same, RelDs.append (rs.mono (List.prefix_refl _) g) (rt.mono (List.prefix_refl _) g)⟩ (by simp [RelD]) q⟩
      · exact q.elim
    · exact q.elim
  · exact q.elim⟩
end
/-! ### dict displays -/
def pPairs : List (Sem × Sem) → Env → Sto → R (List (D × D))
  | [], _, S => .ok [] S
  | (a, b) :: r, ρ, S => (a ρ S).bind fun x S => (b ρ S).bind fun y S => (pPairs r ρ S).bind fun ps S => .ok ((x, y) :: ps) S
def keyed : List (D × D) → Option (List (Key × D))
  | [] => some []
  | (a, b) :: r => match keyD a, keyed r with
    | some k, some t => some ((k, b) :: t)
    | _, _ => none
def mergeD (kvs more : List (Key × D)) : List (Key × D) := more.foldl (fun acc kv => setK acc kv.1 kv.2) kvs
def mDisp (ps : List (Sem × Sem)) : Sem := fun ρ S => (pPairs ps ρ (S ++ [.dic false []])).bind fun xs S' => match keyed xs, S'[S.length]? with
  | some kvs, some (.dic false []) => if kvs.length ≤ 15 then .ok (.ref S.length) (S'.set S.length (.dic false (mergeD [] kvs))) else .bad
  | _, _ => .bad
def RelPs (K : PySem.W.Frag) (ι : List Addr) (H : Hp) : List (D × D) → List (V × V) → Prop
  | [], vs => vs = []
  | (a, b) :: r, vs => ∃ x y t, vs = (x, y) :: t ∧ RelD K ι H a x ∧ RelD K ι H b y ∧ RelPs K ι H r t
theorem RelPs.keyed {K : PySem.W.Frag} {ι : List Addr} {H : Hp} : ∀ {ps : List (D × D)} {vs : List (V × V)} {kvs : List (Key × D)}, RelPs K ι H ps vs → keyed ps = some kvs → ∃ ks : List (Key × V), vs = ks.map (fun kv => (kV kv.1, kv.2)) ∧ RelKV K ι H kvs ks
  | [], vs, kvs, h, e => by
    cases e
    have h : vs = [] := h
    subst h
    exact ⟨[], rfl, rfl⟩
  | (a, b) :: r, vs, kvs, h, e => by
    obtain ⟨x, y, t, rfl, h1, h2, h3⟩ := h
    unfold Mx.keyed at e
    split at e
    · rename_i k t' hk ht
      cases e
      obtain ⟨ks, rfl, q⟩ := RelPs.keyed h3 ht
      exact ⟨(k, y) :: ks, by rw [List.map_cons, keyD_rel hk h1], y, ks, rfl, h2, q⟩
    · cases e
theorem RelKV.merge {K : PySem.W.Frag} {ι : List Addr} {H : Hp} : ∀ {more : List (Key × D)} {ms : List (Key × V)} {kvs : List (Key × D)} {ks : List (Key × V)}, RelKV K ι H more ms → RelKV K ι H kvs ks → RelKV K ι H (mergeD kvs more) (mergeK ks ms)
  | [], ms, kvs, ks, h, q => by have h : ms = [] := h; subst h; exact q
  | (k, d) :: r, ms, kvs, ks, h, q => by
    obtain ⟨v, t, rfl, h1, h2⟩ := h
    show RelKV K ι H (mergeD (setK kvs k d) r) (mergeK (putK ks k v) t)
    exact RelKV.merge h2 (RelKV.put h1 q)
section
variable {X : Cx} {xc : XcP} {W : WX}
def ptrs (K : PySem.W.Frag) (xc : XcP) (W : WX) (ps : List (Sem × Sem)) : List (TE × TE) := ps.map fun p => (tM K xc W p.1, tM K xc W p.2)
theorem pairs_weak {K : PySem.W.Frag} : ∀ {ps : List (Sem × Sem)} {β' : Type} {Rel' : List Addr → Hp → D → V → Prop} {σ : L2.St} {H : Hp} {ι : List Addr} {ρ : Env} {S : Sto} {g : List (D × D) → Sto → R D} {Q : VK}, RelE K ι H xc ρ σ → Sim K ι S H → Post K Rel' ι H ((pPairs ps ρ S).bind g) Q (WE W σ) →
    tPairs (ptrs K xc W ps) σ H fun vs H1 => ∃ ι1 xs S1, ι <+: ι1 ∧ Gr H H1 ∧ RelE K ι1 H1 xc ρ σ ∧ Sim K ι1 S1 H1 ∧ RelPs K ι1 H1 xs vs ∧ Post K Rel' ι1 H1 (g xs S1) Q (WE W σ)
  | [], _, Rel', σ, H, ι, ρ, S, g, Q, re, s, h => ⟨ι, [], S, List.prefix_refl _, Gr.refl _, re, s, rfl, h⟩
  | (a, b) :: r, β', Rel', σ, H, ι, ρ, S, g, Q, re, s, h => by
    have h : Post K Rel' ι H (((a ρ S).bind fun x S => (b ρ S).bind fun y S => (pPairs r ρ S).bind fun ps S => .ok ((x, y) :: ps) S).bind g) Q (WE W σ) := h
    have assoc : ∀ {α β γ : Type} (m : R α) (f : α → Sto → R β) (g : β → Sto → R γ), (m.bind f).bind g = m.bind fun x S => (f x S).bind g := fun m f g => by cases m <;> rfl
    rw [assoc] at h
    refine TE.sub (tM_bind re s h) ?_
    rintro v H1 ⟨ι1, d1, S1, p1, g1, re1, s1, rd1, h1⟩
    rw [assoc] at h1
    refine TE.sub (tM_bind re1 s1 h1) ?_
    rintro w H2 ⟨ι2, d2, S2, p2, g2, re2, s2, rd2, h2⟩
    rw [assoc] at h2
    have ih := pairs_weak (β' := β') (ps := r) re2 s2 h2
    have mono : ∀ {l : List (TE × TE)}, (∀ t ∈ l, (∀ σ H Q Q', t.1 σ H Q → (∀ v H', Q v H' → Q' v H') → t.1 σ H Q') ∧ (∀ σ H Q Q', t.2 σ H Q → (∀ v H', Q v H' → Q' v H') → t.2 σ H Q')) → ∀ {H : Hp} {Q Q' : List (V × V) → Hp → Prop}, tPairs l σ H Q → (∀ v H', Q v H' → Q' v H') → tPairs l σ H Q' := by
      intro l
      induction l with
      | nil => exact fun _ _ _ _ h w => w _ _ h
      | cons t l ih =>
        intro ht H Q Q' h w
        obtain ⟨t1, t2⟩ := ht t List.mem_cons_self
        obtain ⟨ta, tb⟩ := t
        exact t1 _ _ _ _ h fun x H1 hx => t2 _ _ _ _ hx fun y H2 hy => ih (fun t h => ht t (List.mem_cons_of_mem _ h)) hy fun ps H3 hp => w _ _ hp
    refine mono (fun t ht => ?_) ih fun vs H3 z => ?_
    · unfold ptrs at ht
      obtain ⟨p, _, rfl⟩ := List.mem_map.mp ht
      exact ⟨fun σ H Q Q' h w => TE.sub h w, fun σ H Q Q' h w => TE.sub h w⟩
    · obtain ⟨ι3, xs, S3, p3, g3, re3, s3, rp, h3⟩ := z
      exact ⟨ι3, (d1, d2) :: xs, S3, (p1.trans p2).trans p3, (g1.trans g2).trans g3, re3, s3, ⟨v, w, vs, rfl, rd1.mono (p2.trans p3) (g2.trans g3), rd2.mono p3 g3, rp⟩, h3⟩
inductive MPs (X : Cx) (xc : XcP) (W : WX) (pos : Pos) : List (Option Expr) → List Expr → List (Sem × Sem) → Prop
  | nil : MPs X xc W pos [] [] []
  | cons {k v : Expr} {ks : List (Option Expr)} {vs : List Expr} {a b : Sem} {ps : List (Sem × Sem)} (hk : ME X xc W k a) (hv : ME X xc W v b) (r : MPs X xc W pos ks vs ps) : MPs X xc W pos (some k :: ks) (v :: vs) ((a, b) :: ps)
theorem MPs.pps {pos : Pos} {ks : List (Option Expr)} {vs : List Expr} {ps : List (Sem × Sem)} (h : MPs X xc W pos ks vs ps) : PPs X pos ks vs (ptrs X.K xc W ps) := by
  induction h with
  | nil => exact pps_nil
  | cons hk hv r ih => exact pps_cons hk hv ih
theorem me_disp {pos : Pos} {ks : List (Option Expr)} {vs : List Expr} {ps : List (Sem × Sem)} (h : MPs X xc W pos ks vs ps) (hall : ks.all (·.isSome) = true := by rfl) (hl : ks.length = vs.length := by rfl) (h0 : ks ≠ [] := by exact List.cons_ne_nil _ _)
    (h15 : ks.length ≤ 15 := by decide) : ME X xc W (.Dict ks vs pos) (mDisp ps) := by
  refine (pe_disp h.pps hall hl h0 h15).weak fun σ H Q ⟨ι, ρ, S, re, s, h⟩ => fun p hp => ?_
  have s1 : Sim X.K (ι ++ [p]) (S ++ [.dic false []]) (upd H p (.dK [])) := s.push hp ⟨[], by simp [upd_same], rfl⟩
  have hn : (ι ++ [p])[S.length]? = some p := by rw [← s.len, List.getElem?_append_right (Nat.le_refl _)]; simp
  have mono : ∀ {l : List (TE × TE)}, (∀ t ∈ l, (∀ σ H Q Q', t.1 σ H Q → (∀ v H', Q v H' → Q' v H') → t.1 σ H Q') ∧ (∀ σ H Q Q', t.2 σ H Q → (∀ v H', Q v H' → Q' v H') → t.2 σ H Q')) → ∀ {H : Hp} {Q Q' : List (V × V) → Hp → Prop}, tPairs l σ H Q → (∀ v H', Q v H' → Q' v H') → tPairs l σ H Q' := by
    intro l
    induction l with
    | nil => exact fun _ _ _ _ h w => w _ _ h
    | cons t l ih =>
      intro ht H Q Q' h w
      obtain ⟨t1, t2⟩ := ht t List.mem_cons_self
      obtain ⟨ta, tb⟩ := t
      exact t1 _ _ _ _ h fun x H1 hx => t2 _ _ _ _ hx fun y H2 hy => ih (fun t h => ht t (List.mem_cons_of_mem _ h)) hy fun ps H3 hp => w _ _ hp
  have h : PostD X.K ι H ((pPairs ps ρ (S ++ [.dic false []])).bind fun xs S' => match keyed xs, S'[S.length]? with
    | some kvs, some (.dic false []) => if kvs.length ≤ 15 then .ok (.ref S.length) (S'.set S.length (.dic false (mergeD [] kvs))) else .bad
    | _, _ => .bad) Q (WE W σ) := h
  refine mono (fun t ht => ?_) (pairs_weak (β' := V) (re.mono (pre_snoc _ _) (Gr.new hp)) s1 (h.mono (pre_snoc _ _) (Gr.new hp))) fun vs H2 z => ?_
  · unfold ptrs at ht
    obtain ⟨p, _, rfl⟩ := List.mem_map.mp ht
    exact ⟨fun σ H Q Q' h w => TE.sub h w, fun σ H Q Q' h w => TE.sub h w⟩
  · obtain ⟨ι2, xs, S2, p2, g2, re2, s2, rp, q⟩ := z
    split at q
    · rename_i kvs hk hS
      split at q
      · rename_i hl15
        have hn2 := pre_get p2 hn
        obtain ⟨us, hH, ru⟩ := s2.is hn2 hS
        have hH : H2 p = some (.dK us) := by simpa using hH
        have ru : us = [] := ru
        subst ru
        obtain ⟨kw, rfl, rk⟩ := rp.keyed hk
        have g : Gr H2 (upd H2 p (.dK (mergeK [] kw))) := Gr.put hH fun z => z
        refine ⟨hH, kw, rfl, by rw [← rk.len]; exact hl15, Post.put (ob := .dic false (mergeD [] kvs)) s2 hn2 hH (fun z => z) ⟨_, by simp [upd_same], RelKV.mono (List.prefix_refl _) g (RelKV.merge rk rfl)⟩ (Mx.rd1 hn2) q⟩
      · exact q.elim
    · exact q.elim
end
end Mx

set_option maxHeartbeats 1000000
namespace Mx
open PySem L2 PySem.Spec PyProof.Rows
def R.isBl (r : R D) : R D := match r with
  | .ok (.bl b) S => .ok (.bl b) S
  | _ => .bad
def eqTy (c : Str) : Ty → Bool
  | .o c' => c' == c
  | .b t => t == "dict"
/-- x == y, x an object of the own class c -/
def opEqOwn (c : Str) (fn : Fn) (a b : D) (S : Sto) : R D := match a with
  | .ref n => (match S[n]?, tyOf S b with
    | some (.ins c' _), some t => if c' = c ∧ eqTy c t = true then (fn [a, b] S).isBl else .bad
    | _, _ => .bad)
  | _ => .bad
/-- what the class must say of == -/
structure EqC (K : PySem.W.Frag) (c : Str) (f : Addr) : Prop where
  eq : PySem.W.findIn K (.ref (He.ga K c)) "__eq__" = some (some (.ref f))
  fn : PySem.W.isFn K (.ref f) = true
  dict : PySem.W.subIn K (.type "dict") (.ref (He.ga K c)) = some false
theorem tyOf_dict {S : Sto} {d : D} (h : tyOf S d = some (.b "dict")) : ∃ n, d = .ref n := by
  cases d with
  | ref n => exact ⟨n, rfl⟩
  | _ => simp [tyOf] at h
section
variable {X : Cx} {c : Str} {f : Addr} {fn : Fn} {k j : Nat} {W : WX}
theorem om_own (O : OwnC X.K c) (e : EqC X.K c f) (F : FnM X.prog X.w X.K X.mg X.base j f fn) (cq : Cq X W k) (hj : j ≤ k := by decide) : OpM X (compareOp .Eq) (opEqOwn c fn) := by
  refine ⟨fun x y H Q => ∃ a b dx vs tb, x = .ref a ∧ y = .ref b ∧ H a = some (.ins (He.ga X.K c) dx vs) ∧ TyX X.K H y tb ∧ PySem.W.notFirst X.K (He.ga X.K c) tb = true ∧ spM X.K fn [x, y] H (fun v H' => ∃ r, v = .bl r ∧ Q v H') E0, ?_, ?_⟩
  · intro pins s σ H x y u v Q I rx ry h
    obtain ⟨a, b, dx, vs, tb, rfl, rfl, ha, ty, nf, sp⟩ := h
    cases rx
    cases ry
    obtain ⟨mA, J, _⟩ := ins_get I.hok ha
    obtain ⟨od, J, _⟩ := J.look
    obtain ⟨P, Z, p, hne⟩ := kit_of I (show RelV (V.ref b) (Value.ref b) from rfl) ty
    obtain ⟨m, hF⟩ := I.fr
    obtain ⟨fd, ps, G, hb⟩ := F.ex
    show wpAny (model X.prog X.w) X.A (richCompare .Eq (.ref a) (.ref b)) (EP X pins σ Q) X.xe s
    refine PySem.W.cmp_K (op := .Eq) (tb := tb) cq.hr.units0 hF I.ok.mod.kin J (Z.ty _ _ I.kIn p) nf e.eq e.fn ?_
    refine wpAny_mono (run_fnS (us := [.ref a, .ref b]) (vs := [.ref a, .ref b]) (E := fun _ => E0) G (cq.hr.mono hj) hb (fun pins H' s' e s'' I' c => passL (X := X) pins σ H' s' e s'' I' c) I (.cons rfl (.cons rfl .nil)) sp) (fun w s' z => ?_) fun _ _ z => z
    obtain ⟨v, H', I', rv, r, ev, q⟩ := z
    subst ev
    cases rv
    exact ⟨.bl r, H', I', rfl, q⟩
  · intro ι H S a b v w Q E s ra rb q
    unfold opEqOwn at q
    split at q
    · rename_i n
      have ra0 := ra
      obtain ⟨x, hx, rfl⟩ := ra.ref_of
      split at q
      · rename_i c' fs t h1 h2
        split at q
        · rename_i hc
          obtain ⟨rfl, ht⟩ := hc
          obtain ⟨dx, vs, hH, _⟩ := s.is hx h1
          have sp : spM X.K fn [.ref x, w] H (fun v H' => ∃ r, v = .bl r ∧ Q v H') E0 := by
            refine ⟨ι, S, [.ref n, b], s, ⟨_, _, rfl, ra0, _, _, rfl, rb, rfl⟩, ?_⟩
            cases hr : fn [.ref n, b] S with
            | ok d S' =>
              rw [hr] at q
              cases d with
              | bl r => exact fun j v Hx p g s' rd => ⟨r, by simpa [RelD] using rd, q j v Hx p g s' rd⟩
              | _ => exact q.elim
            | exc _ _ => rw [hr] at q; exact q.elim
            | bad => rw [hr] at q; exact q.elim
          cases t with
          | o c2 =>
            have ec : c2 = c' := beq_iff_eq.mp ht
            subst ec
            obtain ⟨y, dy, us, rfl, hy⟩ := tyOf_o s rb h2
            exact ⟨x, y, dx, vs, _, rfl, rfl, hH, .base (.ins hy O.ins.cl O.ins.ha O.ins.hn O.ins.htk O.ins.hm), by simp [PySem.W.notFirst], sp⟩
          | b t =>
            have et : t = "dict" := beq_iff_eq.mp ht
            subst et
            obtain ⟨_, ty⟩ := tyOf_b s rb h2
            obtain ⟨y, rfl⟩ : ∃ y, w = .ref y := by
              obtain ⟨m, rfl⟩ := tyOf_dict h2
              obtain ⟨y, _, rfl⟩ := rb.ref_of
              exact ⟨y, rfl⟩
            exact ⟨x, y, dx, vs, _, rfl, rfl, hH, ty, by unfold PySem.W.notFirst; rw [e.dict]; simp, sp⟩
        · exact q.elim
      · exact q.elim
    · exact q.elim
/-! ### == of two dicts -/
def eqKV (S : Sto) (ls : List (Key × D)) : List (Key × D) → Option Bool
  | [] => some true
  | (k, d) :: r => match getK ls k with
    | none => some false
    | some e => (match pd S 55 d, pd S 55 e, eqKV S ls r with
      | some x, some y, some b => some (PyData.eqv x y && b)
      | _, _, _ => none)
def opEqDic (a b : D) (S : Sto) : R D := match a, b with
  | .ref n, .ref m => (match S[n]?, S[m]? with
    | some (.dic false ks), some (.dic false ls) => if ks.length = ls.length then (match eqKV S ls ks with
      | some r => .ok (.bl r) S
      | none => .bad) else .ok (.bl false) S
    | _, _ => .bad)
  | _, _ => .bad
theorem eqKV_hits {pins : List (Addr × Obj)} {σ : L2.St} {H : Hp} {sh : Shared} {ι : List Addr} {S : Sto} (I : Inv X pins σ H sh) (s : Sim X.K ι S H) (hu : X.A.units + 64 < cLine) {ls : List (Key × D)} {lv : List (Key × V)} {vb : List (Key × Value)} (rl : RelKV X.K ι H ls lv) (rb : KV lv vb) :
    ∀ {ks : List (Key × D)} {kv : List (Key × V)} {va : List (Key × Value)} {r : Bool}, RelKV X.K ι H ks kv → KV kv va → eqKV S ls ks = some r → PySem.W.KeqHitsP X.prog X.w X.A.in1 sh vb va r
  | [], kv, va, r, h, q, e => by
    have h : kv = [] := h
    subst h
    cases q
    cases e
    exact .nil
  | (k, d) :: t, kv, va, r, h, q, e => by
    obtain ⟨v, t', rfl, h1, h2⟩ := h
    unfold KV at q
    cases q with
    | @cons _ p _ qs a b =>
      obtain ⟨a1, a2⟩ := a
      obtain ⟨key, u⟩ := p
      have a1 : k = key := a1
      subst a1
      have g := rl.get (k := k)
      unfold eqKV at e
      split at e
      · rename_i hg
        rw [hg] at g
        cases e
        refine .miss ?_
        have z := rb.val k
        rw [g] at z
        cases hv : valueAt vb k with
        | none => rfl
        | some y => rw [hv] at z; exact z.elim
      · rename_i d2 hg
        rw [hg] at g
        obtain ⟨w, hw, rw2⟩ := g
        split at e
        · rename_i x y b' hx hy hb
          cases e
          have z := rb.val k
          rw [hw] at z
          obtain ⟨uy, huy, ruy⟩ := z.some_of
          refine .hit huy ?_ (eqKV_hits I s hu rl rb h2 b hb)
          obtain ⟨as, r1⟩ := Dp.reads I x v u (pd_dp s 55 d x v hx h1) a2
          obtain ⟨bs, r2⟩ := Dp.reads I y w uy (pd_dp s 55 d2 y w hy rw2) ruy
          obtain ⟨l1, l2⟩ := pd_lay 55 d x hx
          obtain ⟨l3, l4⟩ := pd_lay 55 d2 y hy
          have room : X.A.in1.units + min x.depth y.depth < cLine := by
            have : X.A.in1.units = X.A.units + 1 := rfl
            have : min x.depth y.depth ≤ x.depth := Nat.min_le_left _ _
            omega
          exact (SeqAt.eqAt_reads x y X.A.in1 sh u uy as bs r1 r2 l1 l3 room).eqP
        · cases e
theorem om_dic (hu : X.A.units + 64 < cLine) : OpM X (compareOp .Eq) opEqDic := by
  refine ⟨fun x y H Q => ∃ a b ks ls ι S kd ld r, x = .ref a ∧ y = .ref b ∧ H a = some (.dK ks) ∧ H b = some (.dK ls) ∧ Sim X.K ι S H ∧ RelKV X.K ι H kd ks ∧ RelKV X.K ι H ld ls ∧ (kd.length = ld.length → eqKV S ld kd = some r) ∧ Q (.bl (decide (kd.length = ld.length) && r)) H, ?_, ?_⟩
  · intro pins s σ H x y v u Q I rx ry h
    obtain ⟨a, b, ks, ls, ι, S, kd, ld, r, rfl, rfl, ea, eb, si, rk, rl, hr, q⟩ := h
    obtain rfl : v = Value.ref a := rx
    obtain rfl : u = Value.ref b := ry
    obtain ⟨_, ya, va, ra, da⟩ := (show ObjOk X.prog X.w H s.heap a (.dK ks) from I.hok a _ ea)
    obtain ⟨_, yb, vb, rb, db⟩ := (show ObjOk X.prog X.w H s.heap b (.dK ls) from I.hok b _ eb)
    have l1 : va.length = kd.length := by rw [← ra.length, ← rk.len]
    have l2 : vb.length = ld.length := by rw [← rb.length, ← rl.len]
    show wpAny (model X.prog X.w) X.A (richCompare .Eq (.ref a) (.ref b)) (EP X pins σ Q) X.xe s
    refine PySem.W.rcP_dicts (knd := mixKind X.prog X.w) (r := r) ya yb da db (by omega) (fun hl => eqKV_hits I si hu rl rb rk ra (hr (by omega))) _ _ ?_
    refine ⟨.bl _, H, I, rfl, ?_⟩
    rw [l1, l2]
    have e : (kd.length == ld.length) = decide (kd.length = ld.length) := by
      by_cases z : kd.length = ld.length <;> simp [z]
    rw [e]; exact q
  · intro ι H S a b v w Q E s ra rb q
    unfold opEqDic at q
    split at q
    · rename_i n m
      obtain ⟨x, hx, rfl⟩ := ra.ref_of
      obtain ⟨y, hy, rfl⟩ := rb.ref_of
      split at q
      · rename_i ks ls h1 h2
        obtain ⟨kv, hH, rk⟩ := s.is hx h1
        obtain ⟨lv, hH2, rl⟩ := s.is hy h2
        have hH : H x = some (.dK kv) := by simpa using hH
        have hH2 : H y = some (.dK lv) := by simpa using hH2
        split at q
        · rename_i hl
          split at q
          · rename_i r hr
            refine ⟨x, y, kv, lv, ι, S, ks, ls, r, rfl, rfl, hH, hH2, s, rk, rl, fun _ => hr, q.give s ?_⟩
            simp [RelD, hl]
          · exact q.elim
        · rename_i hl
          refine ⟨x, y, kv, lv, ι, S, ks, ls, true, rfl, rfl, hH, hH2, s, rk, rl, fun z => absurd z hl, q.give s ?_⟩
          simp [RelD, hl]
      · exact q.elim
    · exact q.elim
end
/-! ### range(a, b) -/
section
variable {X : Cx} {xc : XcP} {W : WX} {pos : Pos}
theorem mi_r2 {tg a b : Expr} {f g : Sem} {p : Pos} (ha : ME X xc W a f) (hb : ME X xc W b g) (hm : X.mg "range" = none) (hg : Gl X "range" := by rfl) (hs : starEach [a, b] X.env = [(false, eval a X.env), (false, eval b X.env)] := by rfl)
    (hs1 : starEach [a, b] X.env = (false, eval a X.env) :: starEach [b] X.env := by rfl) (hs2 : starEach [b] X.env = [(false, eval b X.env)] := by rfl) (hs3 : starEach [b] X.env = (false, eval b X.env) :: starEach [] X.env := by rfl) : MI X xc W tg (.Call (.Name "range" p) [a, b] [] pos) (itR2 f g) := by
  refine (pi_range2 hg hm (pa_cons ha (pa_cons hb pa_nil hs3) hs1) hs hs2).weak fun σ H R ⟨ι, ρ, S, r, s, q⟩ => ?_
  refine TE.sub (tM_bind r s q) ?_
  rintro v H1 ⟨ι1, d1, S1, p1, g1, re1, s1, rd, h1⟩
  refine TE.sub (tM_bind re1 s1 h1) ?_
  rintro w H2 ⟨ι2, d2, S2, p2, g2, re2, s2, rd2, h2⟩
  split at h2
  · rename_i i j
    have e1 : v = .int i := by simpa [RelD] using rd
    have e2 : w = .int j := by simpa [RelD] using rd2
    subst e1 e2
    split at h2
    · rename_i hb
      exact ⟨i, j, rfl, ⟨hb.1, hb.2.1, hb.2.2.1, hb.2.2.2⟩, h2.give (v := L2.Itr i (j - i).toNat) s2 walkR⟩
    · exact h2.elim
  · exact h2.elim
end
end Mx

set_option maxHeartbeats 1000000
namespace Mx
open PySem L2 PySem.Spec PyProof.Rows NdefX
/-! ### where a def stands -/
inductive Wh where
  | g (x : Str) | m (c f : Str) | p (c f : Str)
def Wh.at (K : PySem.W.Frag) : Wh → Addr
  | .g x => He.ga K x
  | .m c f => He.ma K (He.ga K c) f
  | .p c f => (match PySem.W.recIn K (He.ma K (He.ga K c) f) "property" with
    | some (.ref a :: _) => a
    | _ => 0)
structure DfX where
  w : Wh
  name : Str
  qual : Str
  params : Arguments
  body : List Stmt
  scope : Scope
  err : Bool := false
abbrev ObF : Type := Option (Str × Str × Arguments × FuncBody × Scope × Addr × Addr × List Str)
def obF (K : PySem.W.Frag) (a : Addr) : ObF := match K.lookup a with
  | some ⟨_, _, .func fd, _⟩ => some (fd.name, fd.qualname, fd.params, fd.body, fd.scope, fd.globals, fd.builtins, fd.closure.map (·.1))
  | _ => none
def DfX.val (d : DfX) : ObF := some (d.name, d.qual, d.params, .stmts d.body, d.scope, mainGlobals, builtinsNs, if d.err = true then ["__class__"] else [])
def dfl0 : Value → Bool
  | .none => true
  | _ => false
theorem dfl0_ok {v : Value} (h : dfl0 v = true) : v = .none := by
  cases v with
  | none => rfl
  | _ => cases h
def DfX.ok (K : PySem.W.Frag) (d : DfX) : Bool := PySem.W.keepIn K (.ref (d.w.at K)) && (match K.lookup (d.w.at K) with
  | some ⟨_, _, .func fd, _⟩ => PySem.W.codeIn K fd.code d.qual && dfl0 fd.defaults
  | _ => false)
theorem and2 {a b : Bool} (h : (a && b) = true) : a = true ∧ b = true := Bool.and_eq_true_iff.mp h
theorem DfX.fun {K : PySem.W.Frag} {d : DfX} (e : obF K (d.w.at K) = d.val) (c : d.ok K = true) (hn : d.err = false) : ∃ fd, FunD K d.name d.qual d.params d.body d.scope [] [] (d.w.at K) fd := by
  obtain ⟨kp, c2⟩ := and2 c
  unfold obF at e
  generalize d.w.at K = a at *
  cases q : K.lookup a with
  | none => rw [q] at c2; cases c2
  | some o =>
    obtain ⟨oc, od, dt, osl⟩ := o
    rw [q] at c2 e
    cases dt with
    | func fd =>
      obtain ⟨n1, n2, n3, n4, n5, n6, n7, n8, n9, n10, n11, n12, n13, n14, n15⟩ := fd
      have e2 : (some (n1, n2, n3, n4, n5, n6, n15, n7.map (·.1)) : ObF) = d.val := e
      unfold DfX.val at e2
      rw [hn, if_neg Bool.false_ne_true] at e2
      simp only [Option.some.injEq, Prod.mk.injEq] at e2
      obtain ⟨h1, h2, h3, h4, h5, h6, h7, h8⟩ := e2
      have h8 : n7 = [] := by
        cases n7 with
        | nil => rfl
        | cons _ _ => cases h8
      subst h1 h2 h3 h4 h5 h6 h7 h8
      obtain ⟨k1, k2⟩ := and2 (show (PySem.W.codeIn K n13 d.qual && dfl0 n8) = true from c2)
      have k3 : n8 = .none := dfl0_ok k2
      subst k3
      exact ⟨_, ⟨oc, od, .none, n9, n10, n11, n12, n13, n14, osl, rfl, q, k1, .inl ⟨rfl, rfl⟩, .inl rfl⟩, kp⟩
    | _ => cases c2
/-! ### own errors -/
def clsB (K : PySem.W.Frag) (C : Addr) : Bool := match K.lookup C with
  | some ⟨.type "type", _, .cls cd, sl⟩ => (match cd.mro, sl.toList with
    | .ref C' :: bm, [_, _, _, _, some (.builtin n), _] => decide (C' = C) && (decide (n = "ValueError.__new__") && (!cd.hasDel && (cd.hasDict && PySem.HandSPX.refsVE bm)))
    | _, _ => false)
  | _ => false
theorem clsB_ok {K : PySem.W.Frag} {C : Addr} (h : clsB K C = true) : ∃ nm q N bs bm sn sub ab col dd k0 k1 k2 k3 k5, K.lookup C = some (excClassObj nm q C N bs bm true sn sub ab col dd k0 k1 k2 k3 k5 "ValueError.__new__") ∧ PySem.HandSPX.refsVE bm = true := by
  unfold clsB at h
  split at h
  · rename_i dd cd sl ho
    split at h
    · rename_i C' bm k0 k1 k2 k3 n k5 hm hs
      obtain ⟨h1, h⟩ := and2 h
      obtain ⟨h2, h⟩ := and2 h
      obtain ⟨h3, h⟩ := and2 h
      obtain ⟨h4, h5⟩ := and2 h
      have e1 := of_decide_eq_true h1
      have e2 := of_decide_eq_true h2
      subst e1 e2
      obtain ⟨nm, bs, mro, ns, qn, hd, sn, sub, ab, col, del⟩ := cd
      have h3 : (!del) = true := h3
      have h4 : hd = true := h4
      have hm : mro = .ref C' :: bm := hm
      have hdel : del = false := by simpa using h3
      subst hm h4 hdel
      have hsl : sl = #[k0, k1, k2, k3, some (.builtin "ValueError.__new__"), k5] := by
        obtain ⟨l⟩ := sl
        have hs : l = _ := hs
        rw [hs]
      subst hsl
      exact ⟨nm, qn, ns, bs, bm, sn, sub, ab, col, dd, k0, k1, k2, k3, k5, ho, h5⟩
    · cases h
  · cases h
def cellB (K : PySem.W.Frag) (cc C : Addr) : Bool := match K.lookup cc with
  | some ⟨_, _, .cell (some (.ref D)), _⟩ => decide (D = C)
  | _ => false
theorem cellB_ok {K : PySem.W.Frag} {cc C : Addr} (h : cellB K cc C = true) : ∃ cl cld csl, K.lookup cc = some ⟨cl, cld, .cell (some (.ref C)), csl⟩ := by
  unfold cellB at h
  split at h
  · rename_i cl cld D csl e
    have z := of_decide_eq_true h
    subst z
    exact ⟨_, _, _, e⟩
  · cases h
def codeB (P : Program) (K : PySem.W.Frag) (cda : Addr) : Bool := match K.lookup cda with
  | some ⟨_, _, .fields vs, _⟩ => (match (vs[2]? : Option Value) with
    | some (.str file _) => (P.main.file : Str) == file
    | _ => false)
  | _ => false
theorem codeB_ok {P : Program} {K : PySem.W.Frag} {cda : Addr} (h : codeB P K cda = true) : ∃ ccl cdd vs ccs file tf, K.lookup cda = some ⟨ccl, cdd, .fields vs, ccs⟩ ∧ vs[2]? = some (.str file tf) ∧ ((P.main.file : Str) == file) = true := by
  unfold codeB at h
  split at h
  · rename_i ccl cdd vs ccs e
    split at h
    · rename_i file tf e2
      exact ⟨_, _, _, _, _, _, e, e2, h⟩
    · cases h
  · cases h
def cloB (P : Program) (K : PySem.W.Frag) (C : Addr) : List (Str × Addr) → Value → Bool
  | [(_, cc)], .ref cda => cellB K cc C && codeB P K cda
  | _, _ => false
def errB (P : Program) (K : PySem.W.Frag) (c : Str) : Bool := match K.lookup (He.ma K (He.ga K c) "__init__") with
  | some ⟨_, _, .func fd, _⟩ => cloB P K (He.ga K c) fd.closure fd.code
  | _ => false
def errC (K : PySem.W.Frag) (C fI : Addr) : Bool := clsB K C && (He.eqO (PySem.W.findIn K (.ref C) "__setattr__") (some (some (.builtin "object.__setattr__"))) && (decide (PySem.W.subIn K (.ref C) (.type "BaseException") = some true) &&
  (decide (PySem.W.typeIn K (.ref C) = some (.type "type")) && (PySem.W.keepIn K (.ref C) && ((PySem.W.clsIn K C).any (fun cd => decide (PySem.W.alongIn K "__init__" ((cd.mro.dropWhile (· != .ref C)).drop 1) = some (some (.builtin "ValueError.__init__")))) &&
  (decide (PySem.W.mroIn K C (.ref C) = some true) && (decide (PySem.W.nsIn K PySem.cStatics "thirdparty.any" = some none) && (decide (PySem.W.subIn K (.ref C) (.type "ValueError") = some true) && (decide (PySem.W.typeIn K (.ref fI) = some (.type "function")) &&
  He.eqO (PySem.W.findIn K (.ref C) "__init__") (some (some (.ref fI))))))))))))
/-- an own error class whose __init__ is the def d -/
theorem err_of {P : Program} {K : PySem.W.Frag} {d : DfX} {c : Str} (hw : d.w = .m c "__init__") (e : obF K (d.w.at K) = d.val) (k : d.ok K = true) (hn : d.err = true) (h1 : errB P K c = true) (h2 : errC K (He.ga K c) (He.ma K (He.ga K c) "__init__") = true) :
    ∃ oc od osl kV doc pm an cc cda ct, XcK P K (He.ga K c) (He.ma K (He.ga K c) "__init__") cc cda ∧ K.lookup (He.ma K (He.ga K c) "__init__") = some ⟨oc, od, .func (PySem.W.fnX d.name d.qual d.params d.body d.scope [("__class__", cc)] .none kV doc pm an (.ref cda) ct), osl⟩ ∧
      PySem.W.codeIn K (.ref cda) d.qual = true ∧ PySem.W.findIn K (.ref (He.ga K c)) "__init__" = some (some (.ref (He.ma K (He.ga K c) "__init__"))) := by
  have ea : d.w.at K = He.ma K (He.ga K c) "__init__" := by rw [hw]; rfl
  rw [ea] at e
  obtain ⟨kp, c2⟩ := and2 k
  rw [ea] at c2
  unfold obF at e
  unfold errB at h1
  generalize He.ma K (He.ga K c) "__init__" = a at *
  generalize He.ga K c = C at *
  cases q : K.lookup a with
  | none => rw [q] at c2; cases c2
  | some o =>
    obtain ⟨oc, od, dt, osl⟩ := o
    rw [q] at c2 e h1
    cases dt with
    | func fd =>
      obtain ⟨n1, n2, n3, n4, n5, n6, n7, n8, n9, n10, n11, n12, n13, n14, n15⟩ := fd
      have e2 : (some (n1, n2, n3, n4, n5, n6, n15, n7.map (·.1)) : ObF) = d.val := e
      unfold DfX.val at e2
      rw [hn, if_pos rfl] at e2
      simp only [Option.some.injEq, Prod.mk.injEq] at e2
      obtain ⟨g1, g2, g3, g4, g5, g6, g7, g8⟩ := e2
      subst g1 g2 g3 g4 g5 g6 g7
      obtain ⟨k1, k2⟩ := and2 (show (PySem.W.codeIn K n13 d.qual && dfl0 n8) = true from c2)
      have k3 : n8 = .none := dfl0_ok k2
      subst k3
      have h1 : cloB P K C n7 n13 = true := h1
      unfold cloB at h1
      split at h1
      · rename_i nm cc cda h0
        obtain ⟨b1, b2⟩ := and2 h1
        have en : nm = ("__class__" : Str) := by
          have z : [nm] = [("__class__" : Str)] := g8
          exact (List.cons.inj z).1
        subst en
        obtain ⟨x1, h2⟩ := and2 h2
        obtain ⟨x2, h2⟩ := and2 h2
        obtain ⟨x3, h2⟩ := and2 h2
        obtain ⟨x4, h2⟩ := and2 h2
        obtain ⟨x5, h2⟩ := and2 h2
        obtain ⟨x6, h2⟩ := and2 h2
        obtain ⟨x7, h2⟩ := and2 h2
        obtain ⟨x8, h2⟩ := and2 h2
        obtain ⟨x9, h2⟩ := and2 h2
        obtain ⟨xa, xb⟩ := and2 h2
        obtain ⟨cd, y1, y2⟩ : ∃ cd, PySem.W.clsIn K C = some cd ∧ PySem.W.alongIn K "__init__" ((cd.mro.dropWhile (· != .ref C)).drop 1) = some (some (.builtin "ValueError.__init__")) := by
          cases z : PySem.W.clsIn K C with
          | none => rw [z] at x6; cases x6
          | some cd => rw [z] at x6; exact ⟨cd, rfl, of_decide_eq_true x6⟩
        refine ⟨oc, od, osl, _, _, _, _, cc, cda, _, ⟨⟨clsB_ok x1, He.eqO_ok x2, of_decide_eq_true x3, of_decide_eq_true x4, x5⟩, cellB_ok b1, codeB_ok b2, ⟨cd, y1, y2⟩, of_decide_eq_true x7, of_decide_eq_true x8, of_decide_eq_true x9, of_decide_eq_true xa⟩, rfl, k1, He.eqO_ok xb⟩
      · cases h1
    | _ => cases c2
end Mx

set_option maxHeartbeats 1000000
namespace Mx
open PySem L2 PySem.Spec PyProof.Rows NdefX
inductive Fx where
  | fa (f : He.Fa)
  | err (c : Str)
  | kit (d c : Str) (b : Bool)
  | kitT (d : Str) (t : String) (b : Bool)
  | exc (d : Str)
  | xf (c f : Str)
  | own (c : Str)
  | eqc (c : Str)
  | prop (c f : Str)
  | tup (x : Str) (vs : List He.Dv)
  | tab (x k : Str) (vs : List He.Dv)
def ownB (K : PySem.W.Frag) (C : Addr) : Bool := He.eqO (PySem.W.findIn K (.ref C) "__class__") (some (some (.builtin "object.__class__"))) && (He.eqO (PySem.W.specialIn K (.builtin "object.__class__") "__get__") (some (some (.builtin "getset_descriptor.__get__"))) &&
  (decide (PySem.W.takesIn K (.builtin "object.__class__") = some true) && (decide (PySem.W.mroIn K C (.type "object") = some true) && (decide (PySem.W.kitOne K (.ref C) (.ref C) = some true) && blts.all fun t => decide (PySem.W.kitOne K (.type t) (.ref C) = some false)))))
def excB (K : PySem.W.Frag) (D : Addr) : Bool := He.eqO (PySem.W.findIn K (.ref D) "__getattribute__") (some (some (.builtin "BaseException.__getattribute__"))) && (He.eqO (PySem.W.findIn K (.ref D) "__getattr__") (some none) && (decide (PySem.W.subIn K (.ref D) (.type "BaseException") = some true) &&
  (PySem.W.hasDictIn K D && (He.eqO (PySem.W.findIn K (.ref D) "__class__") (some (some (.builtin "object.__class__"))) && (He.eqO (PySem.W.specialIn K (.builtin "object.__class__") "__get__") (some (some (.builtin "getset_descriptor.__get__"))) &&
  (decide (PySem.W.takesIn K (.builtin "object.__class__") = some true) && decide (PySem.W.mroIn K D (.type "object") = some true)))))))
def tupAtB (K : PySem.W.Frag) (v : Value) (vs : List He.Dv) : Bool := match v with
  | .ref a => (match K.lookup a with
    | some ⟨.type c, _, .seq its _, _⟩ => decide (c = "tuple") && (decide (its.size ≤ sizeLine) && He.relAll (vs.map (He.Dv.v K)) its.toList)
    | _ => false)
  | _ => false
def propB (K : PySem.W.Frag) (p g : Addr) : Bool := match PySem.W.recIn K p "property" with
  | some (.ref h :: _) => decide (h = g)
  | _ => false
def Fx.ok (P : Program) (K : PySem.W.Frag) : Fx → Bool
  | .fa f => f.ok K
  | .err c => errB P K c && errC K (He.ga K c) (He.ma K (He.ga K c) "__init__")
  | .kit d c b => decide (PySem.W.kitOne K (.ref (He.ga K d)) (.ref (He.ga K c)) = some b)
  | .kitT d t b => decide (PySem.W.kitOne K (.ref (He.ga K d)) (.type t) = some b)
  | .exc d => excB K (He.ga K d)
  | .xf c f => xfB K (He.ga K c) && He.eqO (PySem.W.findIn K (.ref (He.ga K c)) f) (some none)
  | .own c => (He.Fa.cls c).ok K && ownB K (He.ga K c)
  | .eqc c => He.eqO (PySem.W.findIn K (.ref (He.ga K c)) "__eq__") (some (some (.ref (He.ma K (He.ga K c) "__eq__")))) && (PySem.W.isFn K (.ref (He.ma K (He.ga K c) "__eq__")) && decide (PySem.W.subIn K (.type "dict") (.ref (He.ga K c)) = some false))
  | .prop c f => He.eqO (PySem.W.findIn K (.ref (He.ga K c)) f) (some (some (.ref (He.ma K (He.ga K c) f)))) && (He.eqO (PySem.W.specialIn K (.ref (He.ma K (He.ga K c) f)) "__get__") (some (some (.builtin "property.__get__"))) &&
    (decide (PySem.W.takesIn K (.ref (He.ma K (He.ga K c) f)) = some true) && propB K (He.ma K (He.ga K c) f) ((Wh.p c f).at K)))
  | .tup x vs => He.tupB K x vs
  | .tab x k vs => (match PySem.W.nsIn K (He.ga K x) k with
    | some (some u) => tupAtB K u vs
    | _ => false)
/-! ### the hook -/
def asX (g : Addr → Option Obj) : Nat → List Addr
  | 0 => [mainGlobals, PySem.cStatics]
  | n + 1 => He.growD g (asX g n)
abbrev AlX : Type := Bool × List ObF × List (Option (List (Option (Str × Int))))
def obsX (P : Program) (fx : List Fx) (fn : List DfX) (ts : List He.Tab) (K : PySem.W.Frag) : AlX := ((fx.all fun f => f.ok P K) && fn.all fun d => d.ok K, fn.map fun d => obF K (d.w.at K), ts.map fun t => He.dicW K (t.1 K))
def valX (fn : List DfX) (ts : List He.Tab) (w : World) : AlX := (true, fn.map DfX.val, ts.map fun t => some (He.keysIn w.params t.2))
def SaysX (P : Program) (fx : List Fx) (fn : List DfX) (ts : List He.Tab) (w : World) (K : PySem.W.Frag) : Prop := obsX P fx fn ts K = valX fn ts w
def obsXG (P : Program) (n : Nat) (fx : List Fx) (fn : List DfX) (ts : List He.Tab) (g : Addr → Option Obj) : AlX := obsX P fx fn ts (He.frG g (asX g n))
def hookX (P : Program) (n : Nat) (fx : List Fx) (fn : List DfX) (ts : List He.Tab) : PySem.W.Hook where
  α := AlX
  obs := fun s => obsXG P n fx fn ts s.heap.get?
  val := fun w => valX fn ts w
  says := fun w h => ∃ K : PySem.W.Frag, K.In h ∧ SaysX P fx fn ts w K
  of := fun _ _ e => ⟨_, He.frG_in, e⟩
  keeps := fun _ _ _ ⟨K, hK, c⟩ k => ⟨K, PySem.W.Frag.In.keeps hK k, c⟩
theorem obsXG_eq {P : Program} {n : Nat} {fx : List Fx} {fn : List DfX} {ts : List He.Tab} {g : Addr → Option Obj} {s : Shared} (h : ∀ a, g a = s.heap.get? a) : obsXG P n fx fn ts g = (hookX P n fx fn ts).obs s := by
  have e : g = s.heap.get? := funext h
  rw [e] <;> rfl
section
variable {P : Program} {fx : List Fx} {fn : List DfX} {ts : List He.Tab} {w : World} {K : PySem.W.Frag}
theorem SaysX.fact (c : SaysX P fx fn ts w K) (i : Nat) {f : Fx} (h : fx[i]? = some f := by rfl) : f.ok P K = true := by
  have c1 := (and2 (show ((fx.all fun f => f.ok P K) && fn.all fun d => d.ok K) = true from congrArg (fun z : AlX => z.1) c)).1
  exact List.all_eq_true.mp c1 f (List.mem_of_getElem? h)
theorem SaysX.dok (c : SaysX P fx fn ts w K) (i : Nat) {d : DfX} (h : fn[i]? = some d := by rfl) : obF K (d.w.at K) = d.val ∧ d.ok K = true := by
  have c2 := (and2 (show ((fx.all fun f => f.ok P K) && fn.all fun d => d.ok K) = true from congrArg (fun z : AlX => z.1) c)).2
  have e : fn.map (fun d => obF K (d.w.at K)) = fn.map DfX.val := congrArg (fun z : AlX => z.2.1) c
  have e2 : (fn.map fun d => obF K (d.w.at K))[i]? = (fn.map DfX.val)[i]? := by rw [e]
  rw [List.getElem?_map, List.getElem?_map, h] at e2
  exact ⟨Option.some.inj e2, List.all_eq_true.mp c2 d (List.mem_of_getElem? h)⟩
theorem SaysX.def_ (c : SaysX P fx fn ts w K) (i : Nat) {d : DfX} (h : fn[i]? = some d := by rfl) (hn : d.err = false := by rfl) : ∃ fd, FunD K d.name d.qual d.params d.body d.scope [] [] (d.w.at K) fd := by
  obtain ⟨h1, h2⟩ := c.dok i h
  exact DfX.fun h1 h2 hn
theorem SaysX.tab (c : SaysX P fx fn ts w K) (i : Nat) {t : He.Tab} (h : ts[i]? = some t := by rfl) : ∃ es n, KDict K w (t.1 K) es n := by
  have e : ts.map (fun t => He.dicW K (t.1 K)) = ts.map fun t => some (He.keysIn w.params t.2) := congrArg (fun z : AlX => z.2.2) c
  have e2 : (ts.map fun t => He.dicW K (t.1 K))[i]? = (ts.map fun t => some (He.keysIn w.params t.2))[i]? := by rw [e]
  rw [List.getElem?_map, List.getElem?_map, h] at e2
  exact He.dicW_ok (Option.some.inj e2)
theorem kit_fx {d c : Str} {b : Bool} (h : (Fx.kit d c b).ok P K = true) : PySem.W.kitOne K (.ref (He.ga K d)) (.ref (He.ga K c)) = some b := of_decide_eq_true h
theorem kitT_fx {d : Str} {t : String} {b : Bool} (h : (Fx.kitT d t b).ok P K = true) : PySem.W.kitOne K (.ref (He.ga K d)) (.type t) = some b := of_decide_eq_true h
theorem exc_fx {d : Str} (h : (Fx.exc d).ok P K = true) : ExcC K (He.ga K d) := by
  obtain ⟨h1, h⟩ := and2 h
  obtain ⟨h2, h⟩ := and2 h
  obtain ⟨h3, h⟩ := and2 h
  obtain ⟨h4, h⟩ := and2 h
  obtain ⟨h5, h⟩ := and2 h
  obtain ⟨h6, h⟩ := and2 h
  obtain ⟨h7, h8⟩ := and2 h
  exact ⟨He.eqO_ok h1, He.eqO_ok h2, of_decide_eq_true h3, h4, He.eqO_ok h5, He.eqO_ok h6, of_decide_eq_true h7, of_decide_eq_true h8⟩
theorem xf_fx {c f : Str} (h : (Fx.xf c f).ok P K = true) : XfC K (He.ga K c) ∧ PySem.W.findIn K (.ref (He.ga K c)) f = some none := by
  obtain ⟨h1, h2⟩ := and2 h
  exact ⟨xfB_ok h1, He.eqO_ok h2⟩
theorem own_fx {c : Str} (h : (Fx.own c).ok P K = true) : OwnC K c := by
  obtain ⟨h0, h⟩ := and2 h
  obtain ⟨h1, h⟩ := and2 h
  obtain ⟨h2, h⟩ := and2 h
  obtain ⟨h3, h⟩ := and2 h
  obtain ⟨h4, h⟩ := and2 h
  obtain ⟨h5, h6⟩ := and2 h
  exact ⟨⟨He.cls_ok h0, He.eqO_ok h1, He.eqO_ok h2, of_decide_eq_true h3, of_decide_eq_true h4, of_decide_eq_true h5⟩, fun t ht => of_decide_eq_true (List.all_eq_true.mp h6 t ht)⟩
theorem eqc_fx {c : Str} (h : (Fx.eqc c).ok P K = true) : EqC K c (He.ma K (He.ga K c) "__eq__") := by
  obtain ⟨h1, h⟩ := and2 h
  obtain ⟨h2, h3⟩ := and2 h
  exact ⟨He.eqO_ok h1, h2, of_decide_eq_true h3⟩
theorem prop_fx {c f : Str} (h : (Fx.prop c f).ok P K = true) : PropOf K (He.ga K c) f (He.ma K (He.ga K c) f) ((Wh.p c f).at K) := by
  obtain ⟨h1, h⟩ := and2 h
  obtain ⟨h2, h⟩ := and2 h
  obtain ⟨h3, h4⟩ := and2 h
  refine ⟨He.eqO_ok h1, He.eqO_ok h2, of_decide_eq_true h3, ?_⟩
  unfold propB at h4
  split at h4
  · rename_i g rest e
    have z := of_decide_eq_true h4
    rw [z] at e
    exact ⟨rest, e⟩
  · cases h4
/-- data that Dv tells -/
def dOf : List He.Dv → Option (List D)
  | [] => some []
  | v :: r => match v, dOf r with
    | .non, some t => some (.non :: t)
    | .bl b, some t => some (.bl b :: t)
    | .int i, some t => some (.int i :: t)
    | .str x, some t => some (.str x :: t)
    | _, _ => none
theorem dOf_rel {ι : List Addr} {H : Hp} : ∀ {vs : List He.Dv} {ds : List D}, dOf vs = some ds → RelDs K ι H ds (vs.map (He.Dv.v K))
  | [], ds, h => by cases h; rfl
  | v :: r, ds, h => by
    unfold dOf at h
    split at h
    · rename_i t ht
      cases h
      exact ⟨_, _, rfl, by simp [RelD, He.Dv.v], dOf_rel ht⟩
    · rename_i b t ht
      cases h
      exact ⟨_, _, rfl, by simp [RelD, He.Dv.v], dOf_rel ht⟩
    · rename_i b t ht
      cases h
      exact ⟨_, _, rfl, by simp [RelD, He.Dv.v], dOf_rel ht⟩
    · rename_i b t ht
      cases h
      exact ⟨_, _, rfl, by simp [RelD, He.Dv.v], dOf_rel ht⟩
    · cases h
theorem tup_fx {x : Str} {vs : List He.Dv} {ds : List D} (h : (Fx.tup x vs).ok P K = true) (e : dOf vs = some ds := by rfl) (ι : List Addr) (H : Hp) : RelD K ι H (.tup ds) (.ref (He.ga K x)) := by
  unfold RelD
  exact ⟨_, _, rfl, He.tupB_ok h H, dOf_rel e⟩
theorem tab_fx {x k : Str} {vs : List He.Dv} {ds : List D} (h : (Fx.tab x k vs).ok P K = true) (e : dOf vs = some ds := by rfl) : ∃ u v, PySem.W.nsIn K (He.ga K x) k = some (some u) ∧ RelV v u ∧ ∀ ι H, RelD K ι H (.tup ds) v := by
  have h : (match PySem.W.nsIn K (He.ga K x) k with
    | some (some u) => tupAtB K u vs
    | _ => false) = true := h
  split at h
  · rename_i u hu
    unfold tupAtB at h
    split at h
    · rename_i a
      split at h
      · rename_i c od its n osl q
        obtain ⟨h1, h2⟩ := and2 h
        obtain ⟨h3, h4⟩ := and2 h2
        refine ⟨_, .ref a, hu, rfl, fun ι H => ?_⟩
        unfold RelD
        exact ⟨a, _, rfl, .inr ⟨_, its, n, q, congrArg Value.type (of_decide_eq_true h1), rfl, of_decide_eq_true h3, He.relAll_ok h4⟩, dOf_rel e⟩
      · cases h
    · cases h
  · cases h
end
/-! ### a table of the module: text keys -/
def mTab (kvs : List (Str × D)) (b : Sem) : Sem := fun ρ S => (b ρ S).bind fun y S => match y with
  | .str x => (match kvs.lookup x with
    | some d => .ok d S
    | none => .bad)
  | _ => .bad
section
variable {X : Cx} {xc : XcP} {W : WX}
theorem ix_kd {d : Addr} {es : Array DictEntry} {n : Nat} (D : KDict X.K X.w d es n) : IxR X (fun x y H Q => ∃ (z : Str) (u0 : Value) (v0 : V), x = .ref d ∧ y = .str z ∧ PySem.W.nsIn X.K d z = some (some u0) ∧ RelV v0 u0 ∧ Q v0 H) := by
  intro value slice pins s σ H x y v u Q I rx ry h hs
  obtain ⟨z, u0, v0, rfl, rfl, e, r, q⟩ := h
  have rx0 := rx
  have ry0 := ry
  cases rx
  exact tail_any (kd_type D I) PySem.F.slot_dict_getitem.lookup (op_item_kd D pins s σ H (.ref d) (.str z) _ _ Q I (show RelV (V.ref d) (Value.ref d) from rfl) ry ⟨z, u0, v0, rfl, rfl, e, r, q⟩) hs
theorem me_tab {x : Str} {kvs : List (Str × D)} {b : Expr} {fb : Sem} {p pos : Pos} (D : ∃ es n, KDict X.K X.w (He.ga X.K x) es n) (hk : ∀ q ∈ kvs, ∃ u v, PySem.W.nsIn X.K (He.ga X.K x) q.1 = some (some u) ∧ RelV v u ∧ ∀ ι H, RelD X.K ι H q.2 v)
    (hm : X.mg x = some (.ref (He.ga X.K x))) (hb : ME X xc W b fb) (hg : Gl X x := by rfl) (hd : (x == ("__debug__" : Str)) = false := by decide) (hs : PlainIx b := by intro _ _; rfl) : ME X xc W (.Subscript (.Name x p) b pos) (mTab kvs fb) := by
  obtain ⟨es, n, D⟩ := D
  refine (pe_ix (ix_kd D) (pe_glob hg hm (v := .ref (He.ga X.K x)) rfl hd) hb hs).weak fun σ H Q ⟨ι, ρ, S, r, s, h⟩ => ?_
  refine TE.sub (tM_bind r s h) ?_
  rintro v H1 ⟨ι1, d1, S1, p1, g1, re1, s1, rd, h1⟩
  split at h1
  · rename_i z
    have e : v = .str z := by simpa [RelD] using rd
    subst e
    split at h1
    · rename_i d hl
      obtain ⟨u, v, e1, e2, e3⟩ := hk (z, d) (PySem.mem_of_lookup hl)
      exact ⟨z, u, v, rfl, rfl, e1, e2, h1.give s1 (e3 _ _)⟩
    · exact h1.elim
  · exact h1.elim
end
end Mx

namespace Mx
open PySem L2 PySem.Spec PyProof.Rows
theorem _root_.L2.Room.u65 {k : Nat} {A : Around} (r : Room k A) : A.units + 65 < cLine := by have := r.un; omega
theorem Cq.blk {X : Cx} {W : WX} {k : Nat} (cq : Cq X W k) {s : Shared} {H : Hp} {scope : Scope} {cenv : PySem.Env} {fp : List Addr} : Cq (X.blk s H scope cenv fp) W0 k := ⟨takes_none5, cq.hr, PassesOwn.never⟩
def mDic0 : Sem := fun _ S => .ok (.ref S.length) (S ++ [.dic false []])
theorem me_dic0 {X : Cx} {xc : XcP} {W : WX} {pos : Pos} : ME X xc W (.Dict [] [] pos) mDic0 := pe_dnewK.weak fun σ H Q ⟨ι, ρ, S, r, s, h⟩ => fun p hp => by
  refine h (ι ++ [p]) _ _ (pre_snoc ι p) (Gr.new hp) (s.push hp ⟨[], by simp [upd_same], rfl⟩) (Mx.rd1 ?_)
  rw [← s.len, List.getElem?_append_right (Nat.le_refl _)]; simp
theorem ok_fnO {P : Program} {w : World} {K : PySem.W.Frag} {mg : Str → Option Value} {base : Heap} {x qual : Str} {params : Arguments} {body : List Stmt} {scope : Scope} {f : Addr} {fd : FuncData} {N ps : List Str} {k : Nat} {fb : Stm} (F : FunD K x qual params body scope [] [] f fd) (S : FnScope N ps scope)
    (hbody : ∀ (cdv : Value) (A : Around) (outer : List PySem.Env) (s : Shared) (H : Hp) (E : XK), Cq (cx1 P w K mg base N qual scope f cdv A outer s H E) (wE E) k → MSs (cx1 P w K mg base N qual scope f cdv A outer s H E) none (wE E) body fb) :
    FnOk P w K mg base (L2.CX P w) (k + 1) f fd ps (spM K (mkFn ps.length N.length fb)) := by
  have hp : ps.length ≤ N.length := by
    have e := congrArg List.length S.pre
    rw [List.length_take] at e
    omega
  exact F.ok S (fun vs H Q E h => spM_len h) fun cdv A outer s H vs Q E hr hsp => ⟨_, hbody cdv A outer s H E ⟨takes_of rfl rfl rfl rfl, hr, passes_of rfl⟩, body_weak hp hsp⟩
end Mx

set_option maxHeartbeats 0
namespace Mx
open PySem L2 PySem.Spec PyProof.Rows NdefX
def top (i : Nat) : Stmt := PySem.Challenge.pw_stonesets_k01_boxes_refused.main.body.getD i (.Pass ⟨0, 0, 0, 0⟩)
def cb (s : Stmt) (i : Nat) : Stmt := match s with
  | .ClassDef (body := b) .. => b.getD i (.Pass ⟨0, 0, 0, 0⟩)
  | _ => .Pass ⟨0, 0, 0, 0⟩
abbrev st0 : Stmt := (cb (top 2) 0)
def df0 : DfX := ⟨.m "BadDoubles" "__init__", "__init__", "BadDoubles.__init__", defArgs st0, defBody st0, defScope st0, true⟩
abbrev st1 : Stmt := (cb (top 3) 0)
def df1 : DfX := ⟨.m "BadCopies" "__init__", "__init__", "BadCopies.__init__", defArgs st1, defBody st1, defScope st1, true⟩
abbrev st2 : Stmt := (cb (top 4) 0)
def df2 : DfX := ⟨.m "BadLack" "__init__", "__init__", "BadLack.__init__", defArgs st2, defBody st2, defScope st2, true⟩
abbrev st3 : Stmt := top 13
def df3 : DfX := ⟨.g "is_integer", "is_integer", "is_integer", defArgs st3, defBody st3, defScope st3, false⟩
abbrev st4 : Stmt := top 14
def df4 : DfX := ⟨.g "is_from", "is_from", "is_from", defArgs st4, defBody st4, defScope st4, false⟩
abbrev st5 : Stmt := top 15
def df5 : DfX := ⟨.g "is_one_of", "is_one_of", "is_one_of", defArgs st5, defBody st5, defScope st5, false⟩
abbrev st6 : Stmt := top 16
def df6 : DfX := ⟨.g "is_lack", "is_lack", "is_lack", defArgs st6, defBody st6, defScope st6, false⟩
abbrev st7 : Stmt := (cb (top 17) 0)
def df7 : DfX := ⟨.m "Box" "__init__", "__init__", "Box.__init__", defArgs st7, defBody st7, defScope st7, false⟩
abbrev st8 : Stmt := (cb (top 17) 1)
def df8 : DfX := ⟨.p "Box" "doubles", "doubles", "Box.doubles", defArgs st8, defBody st8, defScope st8, false⟩
abbrev st9 : Stmt := (cb (top 17) 2)
def df9 : DfX := ⟨.p "Box" "copies", "copies", "Box.copies", defArgs st9, defBody st9, defScope st9, false⟩
abbrev st10 : Stmt := (cb (top 17) 3)
def df10 : DfX := ⟨.p "Box" "lacks", "lacks", "Box.lacks", defArgs st10, defBody st10, defScope st10, false⟩
abbrev st11 : Stmt := (cb (top 17) 4)
def df11 : DfX := ⟨.m "Box" "__eq__", "__eq__", "Box.__eq__", defArgs st11, defBody st11, defScope st11, false⟩
abbrev st12 : Stmt := top 19
def df12 : DfX := ⟨.g "_law_draws", "_law_draws", "_law_draws", defArgs st12, defBody st12, defScope st12, false⟩
abbrev st13 : Stmt := top 20
def df13 : DfX := ⟨.g "_law_pick", "_law_pick", "_law_pick", defArgs st13, defBody st13, defScope st13, false⟩
abbrev st14 : Stmt := top 21
def df14 : DfX := ⟨.g "_law_lack", "_law_lack", "_law_lack", defArgs st14, defBody st14, defScope st14, false⟩
abbrev st15 : Stmt := top 22
def df15 : DfX := ⟨.g "_law_drawn", "_law_drawn", "_law_drawn", defArgs st15, defBody st15, defScope st15, false⟩
abbrev st16 : Stmt := top 23
def df16 : DfX := ⟨.g "_law_refused", "_law_refused", "_law_refused", defArgs st16, defBody st16, defScope st16, false⟩
abbrev st17 : Stmt := top 24
def df17 : DfX := ⟨.g "law", "law", "law", defArgs st17, defBody st17, defScope st17, false⟩
def fn : List DfX := ([df0, df1, df2, df3, df4, df5, df6, df7, df8, df9, df10, df11, df12, df13, df14, df15, df16, df17] : List DfX)
def fx : List Fx := ([.fa (.glo "StoneError"), .exc "StoneError", .fa (.glo "BadDoubles"), .exc "BadDoubles", .err "BadDoubles", .fa (.glo "BadCopies"), .exc "BadCopies", .err "BadCopies", .fa (.glo "BadLack"), .exc "BadLack", .err "BadLack", .fa (.int "MOST_COPIES" 3), .fa (.int "MOST_LACKS" 2), .fa (.str "SUM" "sum"), .fa (.glo "BOUNDED"), .tup "BOUNDED" [.str "apart", .str "doubles", .str "pip"], .fa (.glo "BOUNDS"), .tab "BOUNDS" "pip" [.int 0, .int 3], .tab "BOUNDS" "apart" [.int 1, .int 3], .tab "BOUNDS" "doubles" [.int 0, .int 4], .fa (.int "LEAST_SUM" 2), .fa (.int "MOST_SUM" 4), .fa (.glo "is_integer"), .fa (.glo "is_from"), .fa (.glo "is_one_of"), .fa (.glo "is_lack"), .fa (.glo "Box"), .own "Box", .fa (.noat "Box" "is_double"), .fa (.noat "Box" "many")] : List Fx) ++ ([.fa (.noat "Box" "holes"), .fa (.mkr "Box"), .prop "Box" "doubles", .prop "Box" "copies", .prop "Box" "lacks", .eqc "Box", .fa (.glo "_law_draws"), .fa (.glo "_law_pick"), .fa (.glo "_law_lack"), .fa (.glo "_law_drawn"), .fa (.glo "_law_refused"), .fa (.glo "law"), .fa (.free "bool"), .fa (.free "enumerate"), .fa (.free "int"), .fa (.free "isinstance"), .fa (.free "len"), .fa (.free "list"), .fa (.free "range"), .fa (.free "str"), .fa (.free "super"), .fa (.free "tuple"), .fa (.exm "BadDoubles" "BadDoubles" true), .fa (.exm "BadCopies" "BadDoubles" false), .fa (.exm "BadLack" "BadDoubles" false), .fa (.exm "BadDoubles" "BadCopies" false), .fa (.exm "BadCopies" "BadCopies" true), .fa (.exm "BadLack" "BadCopies" false), .fa (.exm "BadDoubles" "BadLack" false), .fa (.exm "BadCopies" "BadLack" false)] : List Fx) ++ ([.fa (.exm "BadLack" "BadLack" true), .kit "BadDoubles" "StoneError" true, .kit "BadCopies" "StoneError" true, .kit "BadLack" "StoneError" true, .xf "BadLack" "index", .fa (.noat "BadLack" "index"), .fa (.free "super")] : List Fx)
def ts : List He.Tab := [(fun K => He.ga K "BOUNDS", ["pip", "apart", "doubles"])]
def loose : List Str := (["StoneError", "BadDoubles", "BadCopies", "BadLack", "MOST_COPIES", "MOST_LACKS", "SUM", "BOUNDED", "BOUNDS", "LEAST_SUM", "MOST_SUM", "is_integer", "is_from", "is_one_of", "is_lack", "Box", "_law_draws", "_law_pick", "_law_lack", "_law_drawn", "_law_refused"] : List Str)
abbrev Rw : PySem.W.OpenRow := PySem.W.OpenLaw.row PySem.Challenge.rw_stonesets_k01_boxes_refused
abbrev hk : PySem.W.Hook := hookX Rw.prog 5 fx fn ts
def ob (s : PySem.W.SharedT) : AlX := obsXG Rw.prog 5 fx fn ts (HandSHeadRun.getT s)
theorem ob_eq (s : PySem.W.SharedT) : ob s = hk.obs s.abs := obsXG_eq (HandSHeadRun.getT_eq s)
theorem run0 (w : World) : HandSHeadRun.RunEq Rw (PySem.W.view Rw.prog [24]) hk ob 4000 loose (w.withFollow "special-get-raises" false) := by
  intro os
  kernel_rfl
theorem run1 (w : World) : HandSHeadRun.RunEq Rw (PySem.W.view Rw.prog [24]) hk ob 4000 loose (w.withFollow "special-get-raises" true) := by
  intro os
  kernel_rfl
theorem run (w : World) : HandSHeadRun.RunEq Rw (PySem.W.view Rw.prog [24]) hk ob 4000 loose w := PySem.W.byRow2 "special-get-raises" run0 run1 w
end Mx

set_option maxHeartbeats 0
namespace Mx
open PySem L2 PySem.Spec PyProof.Rows NdefX
structure Wd (w : World) (K : PySem.W.Frag) (mg : Str → Option Value) : Prop where
  c : SaysX Rw.prog fx fn ts w K
  h : ∃ h : Heap, K.In h ∧ h.Ns mainGlobals mg
section
variable {w : World} {K : PySem.W.Frag} {mg : Str → Option Value}
theorem Wd.f (e : Wd w K mg) {f : He.Fa} (i : Nat) (h : fx[i]? = some (.fa f) := by rfl) : f.ok K = true := e.c.fact i h
theorem Wd.glo (e : Wd w K mg) {x : Str} (i : Nat) (h : fx[i]? = some (.fa (.glo x)) := by rfl) : mg x = some (.ref (He.ga K x)) := by
  obtain ⟨_, X, G⟩ := e.h
  exact He.glo_ok X G (e.c.fact i h)
theorem Wd.free (e : Wd w K mg) {x : Str} (i : Nat) (h : fx[i]? = some (.fa (.free x)) := by rfl) : mg x = none := by
  obtain ⟨_, X, G⟩ := e.h
  exact He.free_ok X G (e.c.fact i h)
theorem Wd.int (e : Wd w K mg) {x : Str} {n : Int} (i : Nat) (h : fx[i]? = some (.fa (.int x n)) := by rfl) : ∃ t, mg x = some (.int n t) := by
  obtain ⟨_, X, G⟩ := e.h
  exact He.int_ok X G (e.c.fact i h)
theorem Wd.str (e : Wd w K mg) {x n : Str} (i : Nat) (h : fx[i]? = some (.fa (.str x n)) := by rfl) : ∃ t, mg x = some (.str n t) := by
  obtain ⟨_, X, G⟩ := e.h
  exact He.str_ok X G (e.c.fact i h)
def owns : List Str := ["Box"]
theorem ownAll (e : Wd w K mg) : ∀ c ∈ owns, OwnC K c := by
  intro c h
  unfold owns at h
  rcases List.mem_cons.mp h with rfl | h
  · exact own_fx (e.c.fact 27)
  cases h
def tab_BOUNDS : List (Str × D) := [("pip", .tup [.int 0, .int 3]), ("apart", .tup [.int 1, .int 3]), ("doubles", .tup [.int 0, .int 4])]
theorem tb_BOUNDS (e : Wd w K mg) : ∃ es n, KDict K w (He.ga K "BOUNDS") es n := e.c.tab 0 (t := (fun K => He.ga K "BOUNDS", ["pip", "apart", "doubles"])) rfl
theorem tk_BOUNDS (e : Wd w K mg) : ∀ z ∈ tab_BOUNDS, ∃ u v, PySem.W.nsIn K (He.ga K "BOUNDS") z.1 = some (some u) ∧ RelV v u ∧ ∀ ι H, RelD K ι H z.2 v := by
  intro z h
  unfold tab_BOUNDS at h
  rcases List.mem_cons.mp h with rfl | h
  · exact tab_fx (e.c.fact 17) rfl
  rcases List.mem_cons.mp h with rfl | h
  · exact tab_fx (e.c.fact 18) rfl
  rcases List.mem_cons.mp h with rfl | h
  · exact tab_fx (e.c.fact 19) rfl
  cases h
def cx_BadDoubles : SubF := fun d => if d = "BadDoubles" then some true else if d = "BadCopies" then some false else if d = "BadLack" then some false else  none
theorem sub_BadDoubles (e : Wd w K mg) : SubOk K "BadDoubles" cx_BadDoubles := by
  intro d b h
  unfold cx_BadDoubles at h
  split at h
  · rename_i ed
    subst ed
    cases h
    exact He.exm_ok (e.f 52)
  split at h
  · rename_i ed
    subst ed
    cases h
    exact He.exm_ok (e.f 53)
  split at h
  · rename_i ed
    subst ed
    cases h
    exact He.exm_ok (e.f 54)
  cases h
def cx_BadCopies : SubF := fun d => if d = "BadDoubles" then some false else if d = "BadCopies" then some true else if d = "BadLack" then some false else  none
theorem sub_BadCopies (e : Wd w K mg) : SubOk K "BadCopies" cx_BadCopies := by
  intro d b h
  unfold cx_BadCopies at h
  split at h
  · rename_i ed
    subst ed
    cases h
    exact He.exm_ok (e.f 55)
  split at h
  · rename_i ed
    subst ed
    cases h
    exact He.exm_ok (e.f 56)
  split at h
  · rename_i ed
    subst ed
    cases h
    exact He.exm_ok (e.f 57)
  cases h
def cx_BadLack : SubF := fun d => if d = "BadDoubles" then some false else if d = "BadCopies" then some false else if d = "BadLack" then some true else  none
theorem sub_BadLack (e : Wd w K mg) : SubOk K "BadLack" cx_BadLack := by
  intro d b h
  unfold cx_BadLack at h
  split at h
  · rename_i ed
    subst ed
    cases h
    exact He.exm_ok (e.f 58)
  split at h
  · rename_i ed
    subst ed
    cases h
    exact He.exm_ok (e.f 59)
  split at h
  · rename_i ed
    subst ed
    cases h
    exact He.exm_ok (e.f 60)
  cases h
def is_StoneError : SubF := fun d => if d = "BadDoubles" then some true else if d = "BadCopies" then some true else if d = "BadLack" then some true else  none
theorem kit_StoneError (e : Wd w K mg) : KitOk K (.ref (He.ga K "StoneError")) is_StoneError := by
  intro d b h
  unfold is_StoneError at h
  split at h
  · rename_i ed
    subst ed
    cases h
    exact ⟨kit_fx (e.c.fact 61), exc_fx (e.c.fact 3)⟩
  split at h
  · rename_i ed
    subst ed
    cases h
    exact ⟨kit_fx (e.c.fact 62), exc_fx (e.c.fact 6)⟩
  split at h
  · rename_i ed
    subst ed
    cases h
    exact ⟨kit_fx (e.c.fact 63), exc_fx (e.c.fact 9)⟩
  cases h
abbrev mkx_BadDoubles : MkX := mk0
theorem er_BadDoubles {base : Heap} (e : Wd w K mg) : ExM Rw.prog w K mg base 1 "BadDoubles" mkx_BadDoubles := by
  obtain ⟨h1, h2⟩ := and2 (e.c.fact 4 (f := .err "BadDoubles") rfl)
  obtain ⟨k1, k2⟩ := e.c.dok 0
  obtain ⟨oc, od, osl, kV, doc, pm, an, cc, cda, ct, T, lk, hcd, iC⟩ := err_of (d := df0) (c := "BadDoubles") rfl k1 k2 rfl h1 h2
  have F := fn_exc (te := (tC (.str "the word for doubles is wrong"))) (tr := tNext) (CX := L2.CX Rw.prog w) (P := Rw.prog) (w := w) (mg := mg) (base := base) (N := ["self", "__class__"]) (ps := ["self"]) (xn := "self") (k := 0) T lk hcd (nscope_by (by decide +kernel)) rfl rfl rfl rfl rfl rfl (e.free 66) (by decide +kernel) (fun _ => rfl) (fun _ => rfl)
    (by intro A outer s H E; exact pe_str) (by intro A outer s H E; exact pss_nil)
  exact ⟨T.O, _, _, ["self"], 0, iC, T.fnt, F.imp fun vs H Q E h => spx0 (m := "the word for doubles is wrong") rfl h, Binds.all (fun us hl => match us, hl with | [_], _ => rfl), rfl, fun ds fs h => by
    unfold mkx_BadDoubles at h
    rcases ds with _ | ⟨a, _ | ⟨b, _ | ⟨c, d⟩⟩⟩ <;> first | rfl | cases h⟩
abbrev mkx_BadCopies : MkX := mk0
theorem er_BadCopies {base : Heap} (e : Wd w K mg) : ExM Rw.prog w K mg base 1 "BadCopies" mkx_BadCopies := by
  obtain ⟨h1, h2⟩ := and2 (e.c.fact 7 (f := .err "BadCopies") rfl)
  obtain ⟨k1, k2⟩ := e.c.dok 1
  obtain ⟨oc, od, osl, kV, doc, pm, an, cc, cda, ct, T, lk, hcd, iC⟩ := err_of (d := df1) (c := "BadCopies") rfl k1 k2 rfl h1 h2
  have F := fn_exc (te := (tC (.str "the number of copies is wrong"))) (tr := tNext) (CX := L2.CX Rw.prog w) (P := Rw.prog) (w := w) (mg := mg) (base := base) (N := ["self", "__class__"]) (ps := ["self"]) (xn := "self") (k := 0) T lk hcd (nscope_by (by decide +kernel)) rfl rfl rfl rfl rfl rfl (e.free 66) (by decide +kernel) (fun _ => rfl) (fun _ => rfl)
    (by intro A outer s H E; exact pe_str) (by intro A outer s H E; exact pss_nil)
  exact ⟨T.O, _, _, ["self"], 0, iC, T.fnt, F.imp fun vs H Q E h => spx0 (m := "the number of copies is wrong") rfl h, Binds.all (fun us hl => match us, hl with | [_], _ => rfl), rfl, fun ds fs h => by
    unfold mkx_BadCopies at h
    rcases ds with _ | ⟨a, _ | ⟨b, _ | ⟨c, d⟩⟩⟩ <;> first | rfl | cases h⟩
abbrev mkx_BadLack : MkX := (mk1 "index")
theorem er_BadLack {base : Heap} (e : Wd w K mg) : ExM Rw.prog w K mg base 1 "BadLack" mkx_BadLack := by
  obtain ⟨h1, h2⟩ := and2 (e.c.fact 10 (f := .err "BadLack") rfl)
  obtain ⟨k1, k2⟩ := e.c.dok 2
  obtain ⟨oc, od, osl, kV, doc, pm, an, cc, cda, ct, T, lk, hcd, iC⟩ := err_of (d := df2) (c := "BadLack") rfl k1 k2 rfl h1 h2
  have F := fn_exc (te := (tTx "lack " " is wrong")) (tr := (tSeq (tOst K "index" (tVar 0) (tVar 1)) tNext)) (CX := L2.CX Rw.prog w) (P := Rw.prog) (w := w) (mg := mg) (base := base) (N := ["self", "index", "__class__"]) (ps := ["self", "index"]) (xn := "self") (k := 0) T lk hcd (nscope_by (by decide +kernel)) rfl rfl rfl rfl rfl rfl (e.free 66) (by decide +kernel) (fun _ => rfl) (fun _ => rfl)
    (by intro A outer s H E; exact pe_joined (.cons pe_str (.cons (pe_fmN (pe_var (i := 1) rfl (.inl rfl))) (.cons pe_str .nil)))) (by intro A outer s H E; exact pss_cons (ps_ost (pe_var (i := 0) rfl (.inl rfl)) (pe_var (i := 1) rfl (.inl rfl))) (pss_nil))
  exact ⟨T.O, _, _, ["self", "index"], 1, iC, T.fnt, F.imp fun vs H Q E h => spx1 (p := "lack ") (q := " is wrong") T.O (He.noat_ok (e.f 65)) rfl (by decide) (by decide) h, Binds.all (fun us hl => match us, hl with | [_, _], _ => rfl), rfl, fun ds fs h => by
    unfold mkx_BadLack at h
    rcases ds with _ | ⟨a, _ | ⟨b, _ | ⟨c, d⟩⟩⟩ <;> first | rfl | cases h⟩
/-! is_integer -/
def fb3 : Stm := (sRet (mAnd (mApp (fIsi owns) (aCons (mV 0) (aCons (mC (.ty "int")) aNil))) (mNot (mApp (fIsi owns) (aCons (mV 0) (aCons (mC (.ty
    "bool")) aNil))))))
def fn3 : Fn := mkFn 1 1 fb3
theorem sc3 : FnScope ["value"] ["value"] (defScope st3) := C8.fnScope_by (by decide +kernel)
theorem ok3 {base : Heap} (e : Wd w K mg) : FnM Rw.prog w K mg base 1 (He.ga K "is_integer") fn3 := by
  obtain ⟨fd, F⟩ := e.c.def_ 3 (d := df3) rfl
  refine ok_fn (k := 0) F sc3 (fun _ _ _ _ _ _ us hl => match us, hl with | [_], _ => rfl) (fun cdv A outer s H E cq => ?_)
  have nd := sc3.nd
  exact (ss_one (ms_ret (me_and (me_callB (cm_isi (ownAll e)) (e.free 45) (by decide +kernel) (ma_cons (me_v 0) (ma_cons (me_ty (e.free 44) (by
      decide +kernel)) ma_nil))) (me_one (me_not (me_callB (cm_isi (ownAll e)) (e.free 45) (by decide +kernel) (ma_cons (me_v 0) (ma_cons (me_ty (e.free
      42) (by decide +kernel)) ma_nil))))))))
/-! is_from -/
def fb4 : Stm := (sRet (mAnd (mApp fn3 (aCons (mV 0) aNil)) (mChain opLe opLe (mV 1) (mV 0) (mV 2))))
def fn4 : Fn := mkFn 3 3 fb4
theorem sc4 : FnScope ["value", "low", "high"] ["value", "low", "high"] (defScope st4) := C8.fnScope_by (by decide +kernel)
theorem ok4 {base : Heap} (e : Wd w K mg) : FnM Rw.prog w K mg base 2 (He.ga K "is_from") fn4 := by
  obtain ⟨fd, F⟩ := e.c.def_ 4 (d := df4) rfl
  refine ok_fn (k := 1) F sc4 (fun _ _ _ _ _ _ us hl => match us, hl with | [_, _, _], _ => rfl) (fun cdv A outer s H E cq => ?_)
  have nd := sc4.nd
  exact (ss_one (ms_ret (me_and (me_call cq (ok3 e) (e.glo 22) (ma_cons (me_v 0) ma_nil)) (me_one (me_chain om_le om_le (me_v 1) (me_v 0) (me_v 2))))))
/-! is_one_of -/
def fb5 : Stm := (sRet (mAnd (mApp (fIsi owns) (aCons (mV 0) (aCons (mC (.ty "str")) aNil))) (mOp (opIn false) (mV 0) (mV 1))))
def fn5 : Fn := mkFn 2 2 fb5
theorem sc5 : FnScope ["value", "some"] ["value", "some"] (defScope st5) := C8.fnScope_by (by decide +kernel)
theorem ok5 {base : Heap} (e : Wd w K mg) : FnM Rw.prog w K mg base 1 (He.ga K "is_one_of") fn5 := by
  obtain ⟨fd, F⟩ := e.c.def_ 5 (d := df5) rfl
  refine ok_fn (k := 0) F sc5 (fun _ _ _ _ _ _ us hl => match us, hl with | [_, _], _ => rfl) (fun cdv A outer s H E cq => ?_)
  have nd := sc5.nd
  exact (ss_one (ms_ret (me_and (me_callB (cm_isi (ownAll e)) (e.free 45) (by decide +kernel) (ma_cons (me_v 0) (ma_cons (me_ty (e.free 49) (by
      decide +kernel)) ma_nil))) (me_one (me_cmp (om_in cq.hr.u65) (me_v 0) (me_v 1))))))
/-! is_lack -/
def fb6 : Stm := (sSeq (sIf (Mx.tOr (Mx.tNot (tB (mApp (fIsi owns) (aCons (mV 0) (aCons (mC (.ty "tuple")) aNil))))) (tB (mOp opEq (mApp fLen (aCons
    (mV 0) aNil)) (mC (.int 0))))) (sRet (mC (.bl false))) sNil) (sSeq (sIf (tB (mApp fn5 (aCons (mOp opSub_ (mV 0) (mC (.int 0))) (aCons (mC (.tup
    [.str "apart", .str "doubles", .str "pip"])) aNil)))) (sSeq (Mx.sAsg (gT 2 (gsCons (gN 1) (gsCons (gN 2) gsNil))) (mTab tab_BOUNDS (mOp opSub_ (mV
    0) (mC (.int 0))))) (sRet (mAnd (mOp opEq (mApp fLen (aCons (mV 0) aNil)) (mC (.int 2))) (mApp fn4 (aCons (mOp opSub_ (mV 0) (mC (.int 1))) (aCons
    (mV 1) (aCons (mV 2) aNil))))))) sNil) (sSeq (sIf (Mx.tOr (Mx.tNot (tB (mApp fn5 (aCons (mOp opSub_ (mV 0) (mC (.int 0))) (aCons (mTup (aCons (mC
    (.str "sum")) aNil)) aNil))))) (Mx.tOr (tB (mOp opNe (mApp fLen (aCons (mV 0) aNil)) (mC (.int 3)))) (Mx.tNot (tB (mApp fn4 (aCons (mOp opSub_ (mV
    0) (mC (.int 1))) (aCons (mC (.int 2)) (aCons (mC (.int 4)) aNil)))))))) (sRet (mC (.bl false))) sNil) (sRet (mApp fn4 (aCons (mOp opSub_ (mV 0)
    (mC (.int 2))) (aCons (mC (.int 0)) (aCons (mOp opSub (mOp opSub_ (mV 0) (mC (.int 1))) (mC (.int 1))) aNil))))))))
def fn6 : Fn := mkFn 1 3 fb6
theorem sc6 : FnScope ["value", "low", "high"] ["value"] (defScope st6) := C8.fnScope_by (by decide +kernel)
theorem ok6 {base : Heap} (e : Wd w K mg) : FnM Rw.prog w K mg base 3 (He.ga K "is_lack") fn6 := by
  obtain ⟨fd, F⟩ := e.c.def_ 6 (d := df6) rfl
  refine ok_fn (k := 2) F sc6 (fun _ _ _ _ _ _ us hl => match us, hl with | [_], _ => rfl) (fun cdv A outer s H E cq => ?_)
  have nd := sc6.nd
  exact (ss_cons (ms_if (mt_w (mw_or (mt_not (mt_b (me_callB (cm_isi (ownAll e)) (e.free 45) (by decide +kernel) (ma_cons (me_v 0) (ma_cons (me_ty (e.free 51)
      (by decide +kernel)) ma_nil))))) (mw_or1 (mt_cmp (om_eq cq.hr.units) (me_callB cm_len (e.free 46) (by decide +kernel) (ma_cons (me_v 0) ma_nil))
      me_int)))) (ss_one (ms_ret me_bl)) ss_nil) (ss_cons (ms_if (mt_b (me_call cq (ok5 e) (e.glo 24) (ma_cons (me_sub cq (me_v 0) me_int) (ma_cons
      (me_gref (e.glo 14) (fun ι H => tup_fx (e.c.fact 15) rfl ι H)) ma_nil)))) (ss_cons (ms_asg (me_tab (tb_BOUNDS e) (tk_BOUNDS e) (e.glo 16) (me_sub
      cq (me_v 0) me_int)) (mg_t rfl (mgs_cons (mg_n nd) (mgs_cons (mg_n nd) mgs_nil)))) (ss_one (ms_ret (me_and (me_cmp (om_eq cq.hr.units) (me_callB
      cm_len (e.free 46) (by decide +kernel) (ma_cons (me_v 0) ma_nil)) me_int) (me_one (me_call cq (ok4 e) (e.glo 23) (ma_cons (me_sub cq (me_v 0)
      me_int) (ma_cons (me_v 1) (ma_cons (me_v 2) ma_nil))))))))) ss_nil) (ss_cons (ms_if (mt_w (mw_or (mt_not (mt_b (me_call cq (ok5 e) (e.glo 24)
      (ma_cons (me_sub cq (me_v 0) me_int) (ma_cons (me_tup (ma_cons (me_gstr (e.str 13)) ma_nil)) ma_nil))))) (mw_or (mt_cmp (om_ne cq.hr.units)
      (me_callB cm_len (e.free 46) (by decide +kernel) (ma_cons (me_v 0) ma_nil)) me_int) (mw_or1 (mt_not (mt_b (me_call cq (ok4 e) (e.glo 23) (ma_cons
      (me_sub cq (me_v 0) me_int) (ma_cons (me_gint (e.int 20)) (ma_cons (me_gint (e.int 21)) ma_nil)))))))))) (ss_one (ms_ret me_bl)) ss_nil) (ss_one
      (ms_ret (me_call cq (ok4 e) (e.glo 23) (ma_cons (me_sub cq (me_v 0) me_int) (ma_cons me_int (ma_cons (me_op om_sub (me_sub cq (me_v 0) me_int)
      me_int) ma_nil)))))))))
/-! Box.__init__ -/
def fb7 : Stm := (sSeq (sIf (Mx.tNot (tB (mApp (fIsi owns) (aCons (mV 1) (aCons (mC (.ty "bool")) aNil))))) (sRaise "BadDoubles" mkx_BadDoubles aNil)
    sNil) (sSeq (sIf (Mx.tNot (tB (mApp fn4 (aCons (mV 2) (aCons (mC (.int 1)) (aCons (mC (.int 3)) aNil)))))) (sRaise "BadCopies" mkx_BadCopies aNil)
    sNil) (sSeq (sIf (Mx.tOr (Mx.tNot (tB (mApp (fIsi owns) (aCons (mV 3) (aCons (mC (.ty "tuple")) aNil))))) (tB (mOp opGt (mApp fLen (aCons (mV 3)
    aNil)) (mC (.int 2))))) (sRaise "BadLack" mkx_BadLack (aCons (mC .non) aNil)) sNil) (sSeq (sFor (itE (mV 3)) (gT 2 (gsCons (gN 4) (gsCons (gN 5)
    gsNil))) (sIf (Mx.tOr (Mx.tNot (tB (mApp fn6 (aCons (mV 5) aNil)))) (tB (mOp (opIn false) (mV 5) (mSlice (mV 3) oNone (oSome (mV 4)))))) (sRaise
    "BadLack" mkx_BadLack (aCons (mV 4) aNil)) sNil)) (sSeq (Mx.sFld "Box" "is_double" (mV 0) (mV 1)) (sSeq (Mx.sFld "Box" "many" (mV 0) (mV 2))
    (Mx.sFld "Box" "holes" (mV 0) (mV 3))))))))
def fn7 : Fn := mkFn 4 6 fb7
theorem sc7 : FnScope ["self", "doubles", "copies", "lacks", "index", "lack"] ["self", "doubles", "copies", "lacks"] (defScope st7) := C8.fnScope_by (by decide +kernel)
theorem ok7 {base : Heap} (e : Wd w K mg) : FnM Rw.prog w K mg base 4 (He.ma K (He.ga K "Box") "__init__") fn7 := by
  obtain ⟨fd, F⟩ := e.c.def_ 7 (d := df7) rfl
  refine ok_fn (k := 3) F sc7 (fun _ _ _ _ _ _ us hl => match us, hl with | [_, _, _, _], _ => rfl) (fun cdv A outer s H E cq => ?_)
  have nd := sc7.nd
  exact (ss_cons (ms_if (mt_not (mt_b (me_callB (cm_isi (ownAll e)) (e.free 45) (by decide +kernel) (ma_cons (me_v 1) (ma_cons (me_ty (e.free 42) (by
      decide +kernel)) ma_nil))))) (ss_one (ms_raise0 (er_BadDoubles e) cq (e.glo 2))) ss_nil) (ss_cons (ms_if (mt_not (mt_b (me_call cq (ok4 e) (e.glo
      23) (ma_cons (me_v 2) (ma_cons me_int (ma_cons (me_gint (e.int 11)) ma_nil)))))) (ss_one (ms_raise0 (er_BadCopies e) cq (e.glo 5))) ss_nil)
      (ss_cons (ms_if (mt_w (mw_or (mt_not (mt_b (me_callB (cm_isi (ownAll e)) (e.free 45) (by decide +kernel) (ma_cons (me_v 3) (ma_cons (me_ty (e.free
      51) (by decide +kernel)) ma_nil))))) (mw_or1 (mt_cmp om_gt (me_callB cm_len (e.free 46) (by decide +kernel) (ma_cons (me_v 3) ma_nil)) (me_gint
      (e.int 12)))))) (ss_one (ms_raise (er_BadLack e) cq (e.glo 8) (ma_cons me_non ma_nil))) ss_nil) (ss_cons (ms_for cq (mi_enumT (me_v 3) (e.free 43))
      (mg_t rfl (mgs_cons (mg_n nd) (mgs_cons (mg_n nd) mgs_nil))) (ss_one (ms_if (mt_w (mw_or (mt_not (mt_b (me_call cq (ok6 e) (e.glo 25) (ma_cons
      (me_v 5) ma_nil)))) (mw_or1 (mt_cmp (om_in cq.hr.u65) (me_v 5) (me_slice (me_v 3) mo_none (mo_some (me_v 4))))))) (ss_one (ms_raise (er_BadLack e)
      cq (e.glo 8) (ma_cons (me_v 4) ma_nil))) ss_nil))) (ss_cons (ms_fld (me_v 0) (me_v 1) (own_fx (e.c.fact 27)).ins.cl (He.noat_ok (e.f 28))) (ss_cons
      (ms_fld (me_v 0) (me_v 2) (own_fx (e.c.fact 27)).ins.cl (He.noat_ok (e.f 29))) (ss_one (ms_fld (me_v 0) (me_v 3) (own_fx (e.c.fact 27)).ins.cl
      (He.noat_ok (e.f 30))))))))))
/-! Box.doubles -/
def fb8 : Stm := (sRet (mFld "Box" "is_double" (mV 0)))
def fn8 : Fn := mkFn 1 1 fb8
theorem sc8 : FnScope ["self"] ["self"] (defScope st8) := C8.fnScope_by (by decide +kernel)
theorem ok8 {base : Heap} (e : Wd w K mg) : FnM Rw.prog w K mg base 1 ((Wh.p "Box" "doubles").at K) fn8 := by
  obtain ⟨fd, F⟩ := e.c.def_ 8 (d := df8) rfl
  refine ok_fn (k := 0) F sc8 (fun _ _ _ _ _ _ us hl => match us, hl with | [_], _ => rfl) (fun cdv A outer s H E cq => ?_)
  have nd := sc8.nd
  exact (ss_one (ms_ret (me_fld (me_v 0) (own_fx (e.c.fact 27)).ins.cl (He.noat_ok (e.f 28)))))
/-! Box.copies -/
def fb9 : Stm := (sRet (mFld "Box" "many" (mV 0)))
def fn9 : Fn := mkFn 1 1 fb9
theorem sc9 : FnScope ["self"] ["self"] (defScope st9) := C8.fnScope_by (by decide +kernel)
theorem ok9 {base : Heap} (e : Wd w K mg) : FnM Rw.prog w K mg base 1 ((Wh.p "Box" "copies").at K) fn9 := by
  obtain ⟨fd, F⟩ := e.c.def_ 9 (d := df9) rfl
  refine ok_fn (k := 0) F sc9 (fun _ _ _ _ _ _ us hl => match us, hl with | [_], _ => rfl) (fun cdv A outer s H E cq => ?_)
  have nd := sc9.nd
  exact (ss_one (ms_ret (me_fld (me_v 0) (own_fx (e.c.fact 27)).ins.cl (He.noat_ok (e.f 29)))))
/-! Box.lacks -/
def fb10 : Stm := (sRet (mFld "Box" "holes" (mV 0)))
def fn10 : Fn := mkFn 1 1 fb10
theorem sc10 : FnScope ["self"] ["self"] (defScope st10) := C8.fnScope_by (by decide +kernel)
theorem ok10 {base : Heap} (e : Wd w K mg) : FnM Rw.prog w K mg base 1 ((Wh.p "Box" "lacks").at K) fn10 := by
  obtain ⟨fd, F⟩ := e.c.def_ 10 (d := df10) rfl
  refine ok_fn (k := 0) F sc10 (fun _ _ _ _ _ _ us hl => match us, hl with | [_], _ => rfl) (fun cdv A outer s H E cq => ?_)
  have nd := sc10.nd
  exact (ss_one (ms_ret (me_fld (me_v 0) (own_fx (e.c.fact 27)).ins.cl (He.noat_ok (e.f 30)))))
/-! Box.__eq__ -/
def fb11 : Stm := (sSeq (sIf (Mx.tOr (Mx.tNot (tB (mApp (fIsi owns) (aCons (mV 1) (aCons (mC (.cls "Box")) aNil))))) (tB (mOp opNe (mFld "Box"
    "is_double" (mV 0)) (mFld "Box" "is_double" (mV 1))))) (sRet (mC (.bl false))) sNil) (sRet (mAnd (mOp opEq (mFld "Box" "many" (mV 0)) (mFld "Box"
    "many" (mV 1))) (mOp opEq (mFld "Box" "holes" (mV 0)) (mFld "Box" "holes" (mV 1))))))
def fn11 : Fn := mkFn 2 2 fb11
theorem sc11 : FnScope ["self", "other"] ["self", "other"] (defScope st11) := C8.fnScope_by (by decide +kernel)
theorem ok11 {base : Heap} (e : Wd w K mg) : FnM Rw.prog w K mg base 1 (He.ma K (He.ga K "Box") "__eq__") fn11 := by
  obtain ⟨fd, F⟩ := e.c.def_ 11 (d := df11) rfl
  refine ok_fn (k := 0) F sc11 (fun _ _ _ _ _ _ us hl => match us, hl with | [_, _], _ => rfl) (fun cdv A outer s H E cq => ?_)
  have nd := sc11.nd
  exact (ss_cons (ms_if (mt_w (mw_or (mt_not (mt_b (me_callB (cm_isi (ownAll e)) (e.free 45) (by decide +kernel) (ma_cons (me_v 1) (ma_cons (me_cls (e.glo 26))
      ma_nil))))) (mw_or1 (mt_cmp (om_ne cq.hr.units) (me_fld (me_v 0) (own_fx (e.c.fact 27)).ins.cl (He.noat_ok (e.f 28))) (me_fld (me_v 1) (own_fx
      (e.c.fact 27)).ins.cl (He.noat_ok (e.f 28))))))) (ss_one (ms_ret me_bl)) ss_nil) (ss_one (ms_ret (me_and (me_cmp (om_eq cq.hr.units) (me_fld (me_v
      0) (own_fx (e.c.fact 27)).ins.cl (He.noat_ok (e.f 29))) (me_fld (me_v 1) (own_fx (e.c.fact 27)).ins.cl (He.noat_ok (e.f 29)))) (me_one (me_cmp
      (om_eq cq.hr.units) (me_fld (me_v 0) (own_fx (e.c.fact 27)).ins.cl (He.noat_ok (e.f 30))) (me_fld (me_v 1) (own_fx (e.c.fact 27)).ins.cl
      (He.noat_ok (e.f 30)))))))))
/-! _law_draws -/
def fb12 : Stm := (sRet (mLst (aCons (mApp fList (aCons (mV 0) aNil)) (aCons (mC (.int 0)) (aCons (mC (.int 0)) (aCons (mC (.int 7)) aNil))))))
def fn12 : Fn := mkFn 1 1 fb12
theorem sc12 : FnScope ["_law_script"] ["_law_script"] (defScope st12) := C8.fnScope_by (by decide +kernel)
theorem ok12 {base : Heap} (e : Wd w K mg) : FnM Rw.prog w K mg base 1 (He.ga K "_law_draws") fn12 := by
  obtain ⟨fd, F⟩ := e.c.def_ 12 (d := df12) rfl
  refine ok_fn (k := 0) F sc12 (fun _ _ _ _ _ _ us hl => match us, hl with | [_], _ => rfl) (fun cdv A outer s H E cq => ?_)
  have nd := sc12.nd
  exact (ss_one (ms_ret (me_lst (ma_cons (me_callTy cm_list (e.free 47) (by decide +kernel) (ma_cons (me_v 0) ma_nil)) (ma_cons me_int (ma_cons me_int (ma_cons
      me_int ma_nil)))))))
/-! _law_pick -/
def fb13 : Stm := (sSeq (sIf (tB (mOp opEq (mOp opSub_ (mV 0) (mC (.int 2))) (mC (.int 0)))) (sIf (tB (mOp opLt (mOp opSub_ (mV 0) (mC (.int 1))) (mApp
    fLen (aCons (mOp opSub_ (mV 0) (mC (.int 0))) aNil)))) (sSeq (sSet 3 (mOp opSub_ (mOp opSub_ (mV 0) (mC (.int 0))) (mOp opSub_ (mV 0) (mC (.int
    1))))) (sSeq (sPut (gpS (mV 0) (mC (.int 1))) (mOp opAdd (mOp opSub_ (mV 0) (mC (.int 1))) (mC (.int 1)))) (sIf (tB (mOp opGe (mV 3) (mOp opPow (mC
    (.int 10)) (mC (.int 18))))) (sPut (gpS (mV 0) (mC (.int 2))) (mV 3)) (sPut (gpS (mV 0) (mC (.int 3))) (mOp opMod (mApp fInt (aCons (mOp opAdd (mOp
    opAdd (mOp opMul (mOp opSub_ (mV 0) (mC (.int 3))) (mC (.int 48271))) (mOp opMul (mV 3) (mC (.int 69621)))) (mC (.int 11))) aNil)) (mC (.int
    2147483647))))))) (sPut (gpS (mV 0) (mC (.int 3))) (mOp opMod (mApp fInt (aCons (mOp opAdd (mOp opMul (mOp opSub_ (mV 0) (mC (.int 3))) (mC (.int
    48271))) (mC (.int 7))) aNil)) (mC (.int 2147483647))))) sNil) (sSeq (sIf (tB (mOp opGt (mOp opSub_ (mV 0) (mC (.int 2))) (mC (.int 0)))) (sSeq
    (sSet 2 (mOp opMod (mApp fInt (aCons (mOp opSub_ (mV 0) (mC (.int 2))) aNil)) (mV 1))) (sSeq (sPut (gpS (mV 0) (mC (.int 2))) (mOp opFdiv (mOp
    opSub_ (mV 0) (mC (.int 2))) (mV 1))) (sRet (mV 2)))) sNil) (sRet (mOp opMod (mOp opMod (mApp fInt (aCons (mOp opMul (mOp opSub_ (mV 0) (mC (.int
    3))) (mC (.int 16807))) aNil)) (mC (.int 2147483629))) (mV 1)))))
def fn13 : Fn := mkFn 2 4 fb13
theorem sc13 : FnScope ["_law_row", "_law_many", "_law_found", "_law_cell"] ["_law_row", "_law_many"] (defScope st13) := C8.fnScope_by (by decide +kernel)
theorem ok13 {base : Heap} (e : Wd w K mg) : FnM Rw.prog w K mg base 1 (He.ga K "_law_pick") fn13 := by
  obtain ⟨fd, F⟩ := e.c.def_ 13 (d := df13) rfl
  refine ok_fn (k := 0) F sc13 (fun _ _ _ _ _ _ us hl => match us, hl with | [_, _], _ => rfl) (fun cdv A outer s H E cq => ?_)
  have nd := sc13.nd
  exact (ss_cons (ms_if (mt_cmp (om_eq cq.hr.units) (me_sub cq (me_v 0) me_int) me_int) (ss_one (ms_if (mt_cmp om_lt (me_sub cq (me_v 0) me_int) (me_callB
      cm_len (e.free 46) (by decide +kernel) (ma_cons (me_sub cq (me_v 0) me_int) ma_nil))) (ss_cons (ms_set (me_sub cq (me_sub cq (me_v 0) me_int)
      (me_sub cq (me_v 0) me_int)) nd) (ss_cons (ms_put (me_op om_add (me_sub cq (me_v 0) me_int) me_int) (mgp_s cq (me_v 0) me_int)) (ss_one (ms_if
      (mt_cmp om_ge (me_v 3) (me_op om_pow me_int me_int)) (ss_one (ms_put (me_v 3) (mgp_s cq (me_v 0) me_int))) (ss_one (ms_put (me_op om_mod (me_callTy
      cm_int (e.free 44) (by decide +kernel) (ma_cons (me_op om_add (me_op om_add (me_op om_mul (me_sub cq (me_v 0) me_int) me_int) (me_op om_mul (me_v
      3) me_int)) me_int) ma_nil)) me_int) (mgp_s cq (me_v 0) me_int))))))) (ss_one (ms_put (me_op om_mod (me_callTy cm_int (e.free 44) (by
      decide +kernel) (ma_cons (me_op om_add (me_op om_mul (me_sub cq (me_v 0) me_int) me_int) me_int) ma_nil)) me_int) (mgp_s cq (me_v 0) me_int)))))
      ss_nil) (ss_cons (ms_if (mt_cmp om_gt (me_sub cq (me_v 0) me_int) me_int) (ss_cons (ms_set (me_op om_mod (me_callTy cm_int (e.free 44) (by
      decide +kernel) (ma_cons (me_sub cq (me_v 0) me_int) ma_nil)) (me_v 1)) nd) (ss_cons (ms_put (me_op om_fdiv (me_sub cq (me_v 0) me_int) (me_v 1))
      (mgp_s cq (me_v 0) me_int)) (ss_one (ms_ret (me_v 2))))) ss_nil) (ss_one (ms_ret (me_op om_mod (me_op om_mod (me_callTy cm_int (e.free 44) (by
      decide +kernel) (ma_cons (me_op om_mul (me_sub cq (me_v 0) me_int) me_int) ma_nil)) me_int) (me_v 1))))))
/-! _law_lack -/
def fb14 : Stm := (sSeq (sSet 1 (mApp fn13 (aCons (mV 0) (aCons (mC (.int 5)) aNil)))) (sSeq (sIf (tB (mOp opEq (mV 1) (mC (.int 0)))) (sRet (mTup
    (aCons (mC (.str "pip")) (aCons (mApp fn13 (aCons (mV 0) (aCons (mC (.int 4)) aNil))) aNil)))) sNil) (sSeq (sIf (tB (mOp opEq (mV 1) (mC (.int
    1)))) (sRet (mTup (aCons (mC (.str "apart")) (aCons (mOp opAdd (mC (.int 1)) (mApp fn13 (aCons (mV 0) (aCons (mC (.int 3)) aNil)))) aNil)))) sNil)
    (sSeq (sIf (tB (mOp opEq (mV 1) (mC (.int 2)))) (sRet (mTup (aCons (mC (.str "doubles")) (aCons (mApp fn13 (aCons (mV 0) (aCons (mC (.int 5))
    aNil))) aNil)))) sNil) (sSeq (sSet 2 (mOp opAdd (mC (.int 2)) (mApp fn13 (aCons (mV 0) (aCons (mC (.int 3)) aNil))))) (sRet (mTup (aCons (mC (.str
    "sum")) (aCons (mV 2) (aCons (mApp fn13 (aCons (mV 0) (aCons (mV 2) aNil))) aNil))))))))))
def fn14 : Fn := mkFn 1 3 fb14
theorem sc14 : FnScope ["_law_row", "_law_turn_of", "_law_step"] ["_law_row"] (defScope st14) := C8.fnScope_by (by decide +kernel)
theorem ok14 {base : Heap} (e : Wd w K mg) : FnM Rw.prog w K mg base 2 (He.ga K "_law_lack") fn14 := by
  obtain ⟨fd, F⟩ := e.c.def_ 14 (d := df14) rfl
  refine ok_fn (k := 1) F sc14 (fun _ _ _ _ _ _ us hl => match us, hl with | [_], _ => rfl) (fun cdv A outer s H E cq => ?_)
  have nd := sc14.nd
  exact (ss_cons (ms_set (me_call cq (ok13 e) (e.glo 37) (ma_cons (me_v 0) (ma_cons me_int ma_nil))) nd) (ss_cons (ms_if (mt_cmp (om_eq cq.hr.units) (me_v 1)
      me_int) (ss_one (ms_ret (me_tup (ma_cons me_str (ma_cons (me_call cq (ok13 e) (e.glo 37) (ma_cons (me_v 0) (ma_cons me_int ma_nil))) ma_nil)))))
      ss_nil) (ss_cons (ms_if (mt_cmp (om_eq cq.hr.units) (me_v 1) me_int) (ss_one (ms_ret (me_tup (ma_cons me_str (ma_cons (me_op om_add me_int (me_call
      cq (ok13 e) (e.glo 37) (ma_cons (me_v 0) (ma_cons me_int ma_nil)))) ma_nil))))) ss_nil) (ss_cons (ms_if (mt_cmp (om_eq cq.hr.units) (me_v 1)
      me_int) (ss_one (ms_ret (me_tup (ma_cons me_str (ma_cons (me_call cq (ok13 e) (e.glo 37) (ma_cons (me_v 0) (ma_cons me_int ma_nil))) ma_nil)))))
      ss_nil) (ss_cons (ms_set (me_op om_add me_int (me_call cq (ok13 e) (e.glo 37) (ma_cons (me_v 0) (ma_cons me_int ma_nil)))) nd) (ss_one (ms_ret
      (me_tup (ma_cons me_str (ma_cons (me_v 2) (ma_cons (me_call cq (ok13 e) (e.glo 37) (ma_cons (me_v 0) (ma_cons (me_v 2) ma_nil))) ma_nil)))))))))))
/-! _law_drawn -/
def fb15 : Stm := (sSeq (sSet 1 (mTup aNil)) (sSeq (sFor (itR1 (mApp fn13 (aCons (mV 0) (aCons (mC (.int 3)) aNil)))) (gN 2) (sSeq (sSet 3 (mApp fn14
    (aCons (mV 0) aNil))) (sIf (tB (mOp (opIn true) (mV 3) (mV 1))) (sSet 1 (mOp opAdd (mV 1) (mTup (aCons (mV 3) aNil)))) sNil))) (sRet (mDisp [((mC
    (.str "doubles")), (mOp opEq (mApp fn13 (aCons (mV 0) (aCons (mC (.int 2)) aNil))) (mC (.int 0)))), ((mC (.str "copies")), (mOp opAdd (mC (.int 1))
    (mApp fn13 (aCons (mV 0) (aCons (mC (.int 3)) aNil))))), ((mC (.str "lacks")), (mV 1))]))))
def fn15 : Fn := mkFn 1 4 fb15
theorem sc15 : FnScope ["_law_row", "_law_lacks", "_law_k", "_law_lack_here"] ["_law_row"] (defScope st15) := C8.fnScope_by (by decide +kernel)
theorem ok15 {base : Heap} (e : Wd w K mg) : FnM Rw.prog w K mg base 3 (He.ga K "_law_drawn") fn15 := by
  obtain ⟨fd, F⟩ := e.c.def_ 15 (d := df15) rfl
  refine ok_fn (k := 2) F sc15 (fun _ _ _ _ _ _ us hl => match us, hl with | [_], _ => rfl) (fun cdv A outer s H E cq => ?_)
  have nd := sc15.nd
  exact (ss_cons (ms_set (me_tup ma_nil) nd) (ss_cons (ms_for cq (mi_r1 (me_call cq (ok13 e) (e.glo 37) (ma_cons (me_v 0) (ma_cons me_int ma_nil))) (e.free
      48)) (mg_n nd) (ss_cons (ms_set (me_call cq (ok14 e) (e.glo 38) (ma_cons (me_v 0) ma_nil)) nd) (ss_one (ms_if (mt_cmp (om_ni cq.hr.u65) (me_v 3)
      (me_v 1)) (ss_one (ms_set (me_op om_add (me_v 1) (me_tup (ma_cons (me_v 3) ma_nil))) nd)) ss_nil)))) (ss_one (ms_ret (me_disp (.cons me_str (me_cmp
      (om_eq cq.hr.units) (me_call cq (ok13 e) (e.glo 37) (ma_cons (me_v 0) (ma_cons me_int ma_nil))) me_int) (.cons me_str (me_op om_add me_int (me_call
      cq (ok13 e) (e.glo 37) (ma_cons (me_v 0) (ma_cons me_int ma_nil)))) (.cons me_str (me_v 1) .nil))))))))
/-! _law_refused -/
def fb16 : Stm := (sSeq (sSet 3 (mC .non)) (sSeq (sTry (sSet 3 (mNew "Box" fn7 (aCons (mV 0) (aCons (mV 1) (aCons (mV 2) aNil))))) [(cx_BadDoubles, 4,
    (sSet 3 (mIf (tB (mIsE 4 is_StoneError)) (mC (.str "doubles")) (mC (.str "another"))))), (cx_BadCopies, 4, (sSet 3 (mIf (tB (mIsE 4 is_StoneError))
    (mC (.str "copies")) (mC (.str "another"))))), (cx_BadLack, 4, (sSet 3 (mLst (aCons (mC (.str "lack")) (aCons (mErr "BadLack" 4 "index")
    aNil)))))]) (sRet (mV 3))))
def fn16 : Fn := mkFn 3 5 fb16
theorem sc16 : FnScope ["_law_doubles", "_law_copies", "_law_lacks", "_law_told_there", "e"] ["_law_doubles", "_law_copies", "_law_lacks"] (defScope st16) := C8.fnScope_by (by decide +kernel)
theorem ok16 {base : Heap} (e : Wd w K mg) : FnM Rw.prog w K mg base 6 (He.ga K "_law_refused") fn16 := by
  obtain ⟨fd, F⟩ := e.c.def_ 16 (d := df16) rfl
  refine ok_fn (k := 5) F sc16 (fun _ _ _ _ _ _ us hl => match us, hl with | [_, _, _], _ => rfl) (fun cdv A outer s H E cq => ?_)
  have nd := sc16.nd
  exact (ss_cons (ms_set me_non nd) (ss_cons (ms_try cq (.cons (sub_BadDoubles e) ⟨rfl, by decide, .inl (e.glo 2)⟩ rfl rfl (fun a oe cls d pn hz hf => (ss_one
      (ms_set (me_if (mt_b (me_isE (i := 4) hz hf (kit_StoneError e) (e.free 45) (pe_glob (by rfl) (e.glo 0) (v := .ref (He.ga K "StoneError")) rfl) (fun
      u r => r))) me_str me_str) nd))) (.cons (sub_BadCopies e) ⟨rfl, by decide, .inl (e.glo 5)⟩ rfl rfl (fun a oe cls d pn hz hf => (ss_one (ms_set
      (me_if (mt_b (me_isE (i := 4) hz hf (kit_StoneError e) (e.free 45) (pe_glob (by rfl) (e.glo 0) (v := .ref (He.ga K "StoneError")) rfl) (fun u r =>
      r))) me_str me_str) nd))) (.cons (sub_BadLack e) ⟨rfl, by decide, .inl (e.glo 8)⟩ rfl rfl (fun a oe cls d pn hz hf => (ss_one (ms_set (me_lst
      (ma_cons me_str (ma_cons (me_err (i := 4) hz hf (xf_fx (e.c.fact 64)).1 (xf_fx (e.c.fact 64)).2) ma_nil))) nd))) .nil))) nd (fun W pn xe cq =>
      (ss_one (ms_set (me_make (c := "Box") cq (He.mkr_ok (e.f 31)) (ok7 e) (e.glo 26) (ma_cons (me_v 0) (ma_cons (me_v 1) (ma_cons (me_v 2) ma_nil))))
      nd)))) (ss_one (ms_ret (me_v 3)))))
/-! law -/
def fb17 : Stm := (sSeq (sSet 1 (mApp fn12 (aCons (mV 0) aNil))) (sSeq (sSet 2 (mLst aNil)) (sSeq (sFor (itR1 (mC (.int 6))) (gN 3) (sSeq (sSet 4 (mApp
    fn15 (aCons (mV 1) aNil))) (sSeq (Mx.sAsg (gT 2 (gsCons (gN 8) (gsCons (gN 9) gsNil))) (mTup (aCons (mApp fn16 (aCons (mOp opSub_ (mV 4) (mC (.str
    "doubles"))) (aCons (mOp opSub_ (mV 4) (mC (.str "copies"))) (aCons (mOp opSub_ (mV 4) (mC (.str "lacks"))) aNil)))) (aCons (mOp opSub_ (mV 4) (mC
    (.str "lacks"))) aNil)))) (sSeq (sIf (Mx.tOr (tB (mOp opNe (mLst (aCons (mProp "Box" "doubles" fn8 (mV 8)) (aCons (mProp "Box" "copies" fn9 (mV 8))
    (aCons (mProp "Box" "lacks" fn10 (mV 8)) aNil)))) (mLst (aCons (mOp opSub_ (mV 4) (mC (.str "doubles"))) (aCons (mOp opSub_ (mV 4) (mC (.str
    "copies"))) (aCons (mV 9) aNil)))))) (tB (mOp (opEqOwn "Box" fn11) (mV 8) (mV 4)))) (sRet (mC (.bl false))) sNil) (sSeq (sIf (tB (mOp opNe (mComp
    (itL (mV 2)) (gT 2 (gsCons (gN 10) (gsCons (gN 11) gsNil))) (tB (mOp opNe (mOp (opEqOwn "Box" fn11) (mV 10) (mV 8)) (mOp opEqDic (mV 11) (mV 4))))
    (mV 10) [10, 11]) (mLst aNil))) (sRet (mC (.bl false))) sNil) (sSeq (sExp (mBM "list" fApp (mV 2) (aCons (mTup (aCons (mV 8) (aCons (mV 4) aNil)))
    aNil))) (sSeq (sSet 5 (mLst (aCons (mC .non) (aCons (mTup aNil) (aCons (mC (.str "pip")) (aCons (mTup (aCons (mC (.str "pip")) aNil)) (aCons (mTup
    (aCons (mC (.str "pip")) (aCons (mC (.int 4)) aNil))) (aCons (mTup (aCons (mC (.str "pip")) (aCons (mUn unNeg (mC (.int 1))) aNil))) (aCons (mTup
    (aCons (mC (.str "pip")) (aCons (mC (.bl true)) aNil))) (aCons (mTup (aCons (mC (.str "sum")) (aCons (mC (.int 2)) aNil))) (aCons (mTup (aCons (mC
    (.str "sum")) (aCons (mC (.int 1)) (aCons (mC (.int 0)) aNil)))) aNil))))))))))) (sSeq (sSet 5 (mOp opAdd (mV 5) (mLst (aCons (mTup (aCons (mC
    (.str "sum")) (aCons (mC (.int 5)) (aCons (mC (.int 0)) aNil)))) (aCons (mTup (aCons (mC (.str "sum")) (aCons (mC (.int 3)) (aCons (mC (.int 3))
    aNil)))) (aCons (mTup (aCons (mC (.str "sum")) (aCons (mC (.int 2)) (aCons (mUn unNeg (mC (.int 1))) aNil)))) (aCons (mTup (aCons (mC (.str
    "apart")) (aCons (mC (.int 0)) aNil))) (aCons (mTup (aCons (mC (.str "apart")) (aCons (mC (.int 4)) aNil))) (aCons (mTup (aCons (mC (.str
    "doubles")) (aCons (mC (.int 5)) aNil))) aNil))))))))) (sSeq (sSet 5 (mOp opAdd (mV 5) (mLst (aCons (mLst (aCons (mC (.str "pip")) (aCons (mC (.int
    1)) aNil))) (aCons (mTup (aCons (mC (.str "pip")) (aCons (mC (.int 1)) (aCons (mC (.int 2)) aNil)))) (aCons (mTup (aCons (mC (.str "some")) (aCons
    (mC (.int 1)) aNil))) (aCons (mTup (aCons (mC (.int 1)) (aCons (mC (.int 2)) aNil))) (aCons (mTup (aCons (mC (.str "sum")) (aCons (mC (.int 2))
    (aCons (mC (.bl true)) aNil)))) aNil)))))))) (sSeq (sSet 6 (mOp opSub_ (mV 5) (mApp fn13 (aCons (mV 1) (aCons (mC (.int 20)) aNil))))) (sSeq (sIf
    (Mx.tAnd (tB (mOp opLt (mApp fLen (aCons (mV 9) aNil)) (mC (.int 2)))) (tB (mOp opNe (mApp fn16 (aCons (mC (.bl true)) (aCons (mC (.int 1)) (aCons
    (mOp opAdd (mV 9) (mTup (aCons (mV 6) aNil))) aNil)))) (mLst (aCons (mC (.str "lack")) (aCons (mApp fLen (aCons (mV 9) aNil)) aNil)))))) (sRet (mC
    (.bl false))) sNil) (sSeq (sIf (tB (mOp opNe (mApp fn16 (aCons (mC (.bl true)) (aCons (mC (.int 1)) (aCons (mTup (aCons (mV 6) (aCons (mC .non)
    aNil))) aNil)))) (mLst (aCons (mC (.str "lack")) (aCons (mC (.int 0)) aNil))))) (sRet (mC (.bl false))) sNil) (sSeq (sIf (Mx.tAnd (tB (mOp opNe (mV
    9) (mTup aNil))) (tB (mOp opNe (mApp fn16 (aCons (mC (.bl true)) (aCons (mC (.int 1)) (aCons (mOp opMul (mSlice (mV 9) oNone (oSome (mC (.int 1))))
    (mC (.int 2))) aNil)))) (mLst (aCons (mC (.str "lack")) (aCons (mC (.int 1)) aNil)))))) (sRet (mC (.bl false))) sNil) (sSeq (sSet 7 (mOp opSub_
    (mLst (aCons (mC .non) (aCons (mLst aNil) (aCons (mC (.str "pip")) (aCons (mTup (aCons (mTup (aCons (mC (.str "pip")) (aCons (mC (.int 0)) aNil)))
    (aCons (mTup (aCons (mC (.str "pip")) (aCons (mC (.int 1)) aNil))) (aCons (mTup (aCons (mC (.str "pip")) (aCons (mC (.int 2)) aNil))) aNil))))
    (aCons mDic0 aNil)))))) (mApp fn13 (aCons (mV 1) (aCons (mC (.int 5)) aNil))))) (sSeq (sIf (tB (mOp opNe (mApp fn16 (aCons (mC (.bl true)) (aCons
    (mC (.int 1)) (aCons (mV 7) aNil)))) (mLst (aCons (mC (.str "lack")) (aCons (mC .non) aNil))))) (sRet (mC (.bl false))) sNil) (sSeq (sIf (tB (mOp
    opNe (mApp fn16 (aCons (mC (.bl true)) (aCons (mOp opSub_ (mLst (aCons (mC (.int 0)) (aCons (mC (.int 4)) (aCons (mC (.bl true)) (aCons (mC .non)
    (aCons (mC (.str "1")) aNil)))))) (mApp fn13 (aCons (mV 1) (aCons (mC (.int 5)) aNil)))) (aCons (mC .non) aNil)))) (mC (.str "copies")))) (sRet (mC
    (.bl false))) sNil) (sIf (tB (mOp opNe (mApp fn16 (aCons (mOp opSub_ (mLst (aCons (mC (.int 0)) (aCons (mC (.int 1)) (aCons (mC .non) (aCons (mC
    (.str "yes")) aNil))))) (mApp fn13 (aCons (mV 1) (aCons (mC (.int 4)) aNil)))) (aCons (mC (.int 0)) (aCons (mC .non) aNil)))) (mC (.str
    "doubles")))) (sRet (mC (.bl false))) sNil))))))))))))))))) (sRet (mC (.bl true))))))
def fn17 : Fn := mkFn 1 12 fb17
theorem sc17 : FnScope ["_law_script", "_law_row", "_law_before", "_law_turn", "_law_d", "_law_odd", "_law_bad", "_law_three", "_law_box", "_law_lacks", "_law_one", "_law_mark"] ["_law_script"] (defScope st17) := C8.fnScope_by (by decide +kernel)
theorem lawOk {base : Heap} (e : Wd w K mg) {fd : FuncData} (F : FunD K df17.name df17.qual df17.params df17.body df17.scope [] [] (df17.w.at K) fd) : FnOk Rw.prog w K mg base (L2.CX Rw.prog w) 7 (He.ga K "law") fd ["_law_script"] (spM K fn17) := by
  refine ok_fnO (k := 6) F sc17 (fun cdv A outer s H E cq => ?_)
  have nd := sc17.nd
  exact (ss_cons (ms_set (me_call cq (ok12 e) (e.glo 36) (ma_cons (me_v 0) ma_nil)) nd) (ss_cons (ms_set (me_lst ma_nil) nd) (ss_cons (ms_for cq (mi_r1 me_int
      (e.free 48)) (mg_n nd) (ss_cons (ms_set (me_call cq (ok15 e) (e.glo 39) (ma_cons (me_v 1) ma_nil)) nd) (ss_cons (ms_asg (me_tup (ma_cons (me_call
      cq (ok16 e) (e.glo 40) (ma_cons (me_sub cq (me_v 4) me_str) (ma_cons (me_sub cq (me_v 4) me_str) (ma_cons (me_sub cq (me_v 4) me_str) ma_nil))))
      (ma_cons (me_sub cq (me_v 4) me_str) ma_nil))) (mg_t rfl (mgs_cons (mg_n nd) (mgs_cons (mg_n nd) mgs_nil)))) (ss_cons (ms_if (mt_w (mw_or (mt_cmp
      (om_ne cq.hr.units) (me_lst (ma_cons (me_prop (me_v 8) (own_fx (e.c.fact 27)).ins.cl (prop_fx (e.c.fact 32)) (ok8 e) cq) (ma_cons (me_prop (me_v 8)
      (own_fx (e.c.fact 27)).ins.cl (prop_fx (e.c.fact 33)) (ok9 e) cq) (ma_cons (me_prop (me_v 8) (own_fx (e.c.fact 27)).ins.cl (prop_fx (e.c.fact 34))
      (ok10 e) cq) ma_nil)))) (me_lst (ma_cons (me_sub cq (me_v 4) me_str) (ma_cons (me_sub cq (me_v 4) me_str) (ma_cons (me_v 9) ma_nil))))) (mw_or1
      (mt_cmp (om_own (own_fx (e.c.fact 27)) (eqc_fx (e.c.fact 35)) (ok11 e) cq) (me_v 8) (me_v 4))))) (ss_one (ms_ret me_bl)) ss_nil) (ss_cons (ms_if
      (mt_cmp (om_ne cq.hr.units) (me_comp (own := [("_law_one", 10), ("_law_mark", 11)]) nd (mi_l (me_v 2)) (blkOk_by (by kernel_rfl)) (fun _ _ _ _ _ =>
      (mg_t rfl (mgs_cons (mg_n nd) (mgs_cons (mg_n nd) mgs_nil)))) (fun s H C cl fp => (mts_one (mt_cmp (om_ne cq.hr.units) (me_cmp (om_own (own_fx
      (e.c.fact 27)) (eqc_fx (e.c.fact 35)) (ok11 e) cq.blk) (me_v 10) (me_v 8)) (me_cmp (om_dic cq.hr.units) (me_v 11) (me_v 4))))) (fun s H C cl fp =>
      (me_v 10))) (me_lst ma_nil)) (ss_one (ms_ret me_bl)) ss_nil) (ss_cons (ms_exp (me_bm PySem.F.plainAttrs_list PySem.F.slot_list_append
      PySem.F.type_list_append mx_app (me_v 2) (ma_cons (me_tup (ma_cons (me_v 8) (ma_cons (me_v 4) ma_nil))) ma_nil))) (ss_cons (ms_set (me_lst (ma_cons
      me_non (ma_cons (me_tup ma_nil) (ma_cons me_str (ma_cons (me_tup (ma_cons me_str ma_nil)) (ma_cons (me_tup (ma_cons me_str (ma_cons me_int
      ma_nil))) (ma_cons (me_tup (ma_cons me_str (ma_cons (me_un um_neg me_int) ma_nil))) (ma_cons (me_tup (ma_cons me_str (ma_cons me_bl ma_nil)))
      (ma_cons (me_tup (ma_cons me_str (ma_cons me_int ma_nil))) (ma_cons (me_tup (ma_cons me_str (ma_cons me_int (ma_cons me_int ma_nil))))
      ma_nil)))))))))) nd) (ss_cons (ms_set (me_op om_add (me_v 5) (me_lst (ma_cons (me_tup (ma_cons me_str (ma_cons me_int (ma_cons me_int ma_nil))))
      (ma_cons (me_tup (ma_cons me_str (ma_cons me_int (ma_cons me_int ma_nil)))) (ma_cons (me_tup (ma_cons me_str (ma_cons me_int (ma_cons (me_un um_neg
      me_int) ma_nil)))) (ma_cons (me_tup (ma_cons me_str (ma_cons me_int ma_nil))) (ma_cons (me_tup (ma_cons me_str (ma_cons me_int ma_nil))) (ma_cons
      (me_tup (ma_cons me_str (ma_cons me_int ma_nil))) ma_nil)))))))) nd) (ss_cons (ms_set (me_op om_add (me_v 5) (me_lst (ma_cons (me_lst (ma_cons
      me_str (ma_cons me_int ma_nil))) (ma_cons (me_tup (ma_cons me_str (ma_cons me_int (ma_cons me_int ma_nil)))) (ma_cons (me_tup (ma_cons me_str
      (ma_cons me_int ma_nil))) (ma_cons (me_tup (ma_cons me_int (ma_cons me_int ma_nil))) (ma_cons (me_tup (ma_cons me_str (ma_cons me_int (ma_cons
      me_bl ma_nil)))) ma_nil))))))) nd) (ss_cons (ms_set (me_sub cq (me_v 5) (me_call cq (ok13 e) (e.glo 37) (ma_cons (me_v 1) (ma_cons me_int
      ma_nil)))) nd) (ss_cons (ms_if (mt_w (mw_and (mt_cmp om_lt (me_callB cm_len (e.free 46) (by decide +kernel) (ma_cons (me_v 9) ma_nil)) me_int)
      (mw_and1 (mt_cmp (om_ne cq.hr.units) (me_call cq (ok16 e) (e.glo 40) (ma_cons me_bl (ma_cons me_int (ma_cons (me_op om_add (me_v 9) (me_tup
      (ma_cons (me_v 6) ma_nil))) ma_nil)))) (me_lst (ma_cons me_str (ma_cons (me_callB cm_len (e.free 46) (by decide +kernel) (ma_cons (me_v 9) ma_nil))
      ma_nil))))))) (ss_one (ms_ret me_bl)) ss_nil) (ss_cons (ms_if (mt_cmp (om_ne cq.hr.units) (me_call cq (ok16 e) (e.glo 40) (ma_cons me_bl (ma_cons
      me_int (ma_cons (me_tup (ma_cons (me_v 6) (ma_cons me_non ma_nil))) ma_nil)))) (me_lst (ma_cons me_str (ma_cons me_int ma_nil)))) (ss_one (ms_ret
      me_bl)) ss_nil) (ss_cons (ms_if (mt_w (mw_and (mt_cmp (om_ne cq.hr.units) (me_v 9) (me_tup ma_nil)) (mw_and1 (mt_cmp (om_ne cq.hr.units) (me_call
      cq (ok16 e) (e.glo 40) (ma_cons me_bl (ma_cons me_int (ma_cons (me_op om_mul (me_slice (me_v 9) mo_none (mo_some me_int)) me_int) ma_nil))))
      (me_lst (ma_cons me_str (ma_cons me_int ma_nil))))))) (ss_one (ms_ret me_bl)) ss_nil) (ss_cons (ms_set (me_sub cq (me_lst (ma_cons me_non (ma_cons
      (me_lst ma_nil) (ma_cons me_str (ma_cons (me_tup (ma_cons (me_tup (ma_cons me_str (ma_cons me_int ma_nil))) (ma_cons (me_tup (ma_cons me_str
      (ma_cons me_int ma_nil))) (ma_cons (me_tup (ma_cons me_str (ma_cons me_int ma_nil))) ma_nil)))) (ma_cons me_dic0 ma_nil)))))) (me_call cq (ok13 e)
      (e.glo 37) (ma_cons (me_v 1) (ma_cons me_int ma_nil)))) nd) (ss_cons (ms_if (mt_cmp (om_ne cq.hr.units) (me_call cq (ok16 e) (e.glo 40) (ma_cons
      me_bl (ma_cons me_int (ma_cons (me_v 7) ma_nil)))) (me_lst (ma_cons me_str (ma_cons me_non ma_nil)))) (ss_one (ms_ret me_bl)) ss_nil) (ss_cons
      (ms_if (mt_cmp (om_ne cq.hr.units) (me_call cq (ok16 e) (e.glo 40) (ma_cons me_bl (ma_cons (me_sub cq (me_lst (ma_cons me_int (ma_cons me_int
      (ma_cons me_bl (ma_cons me_non (ma_cons me_str ma_nil)))))) (me_call cq (ok13 e) (e.glo 37) (ma_cons (me_v 1) (ma_cons me_int ma_nil)))) (ma_cons
      me_non ma_nil)))) me_str) (ss_one (ms_ret me_bl)) ss_nil) (ss_one (ms_if (mt_cmp (om_ne cq.hr.units) (me_call cq (ok16 e) (e.glo 40) (ma_cons
      (me_sub cq (me_lst (ma_cons me_int (ma_cons me_int (ma_cons me_non (ma_cons me_str ma_nil))))) (me_call cq (ok13 e) (e.glo 37) (ma_cons (me_v 1)
      (ma_cons me_int ma_nil)))) (ma_cons me_int (ma_cons me_non ma_nil)))) me_str) (ss_one (ms_ret me_bl)) ss_nil)))))))))))))))))) (ss_one (ms_ret
      me_bl)))))
end
abbrev lawR : Nat := 7
abbrev lawFn : Fn := fn17
abbrev lawD : DfX := df17
theorem lawDef {w : World} {K : PySem.W.Frag} (c : SaysX Rw.prog fx fn ts w K) : ∃ fd, FunD K lawD.name lawD.qual lawD.params lawD.body lawD.scope [] [] (lawD.w.at K) fd := c.def_ 17 (d := df17) rfl
abbrev lawGlo : Nat := 41

end Mx

set_option maxHeartbeats 0
namespace Mx
open PySem L2 PySem.Spec PyProof.Rows NdefX
theorem walk_ofX {l : PySem.W.OpenLaw} {n k : Nat} {q : Program} {loose : List Str} {XP : (Str → Option Value) → Heap → Prop} {YP : World → Heap → Prop} {d : DefRec} {x : Str} {fn : Fn}
    (hn : l.most = some n) (hn2 : n ≤ sizeLine) (hdf : d.params.defaults = []) (hr : Room k callerA) (law : ∀ ns : List Int, ∃ S, fn [.scr ns] [] = .ok (.bl true) S)
    (F : ∀ (w : World) (mg : Str → Option Value) (fa : Addr) (h : Heap), YP w h → h.Ns mainGlobals mg → mg d.name = some (.ref fa) →
      ∃ (K : PySem.W.Frag) (fd : FuncData), K.In h ∧ (∀ (s : Shared) (u : Value), BindsTo s fd ⟨[u], []⟩ [(x, u)]) ∧ ∀ base : Heap, FnOk l.prog w K mg base (L2.CX l.prog w) k fa fd [x] (spM K fn)) :
    PySem.W.WalkO q loose XP YP l.row.toRowW d [] (fun f vs => PySem.call f vs) := by
  refine Att.attach_call hn hdf fun w s₀ s₁ mg mb fa o pm cd doc a vs ns G Y ho hd hcd hmg hobj hints hlen hg => ?_
  obtain ⟨K, fd, KX, hb, hF⟩ := F w mg fa _ Y G.T.g hmg
  refine law_call KX G.T.g G.T.b G.T.builtins G.T.nolimit hg hobj hints (Nat.le_trans hlen hn2) hr (fun base _ _ => hF base) hb (fun H hO hS => ?_) (fun H e s2 c => by obtain ⟨_, _, _, _, _, _, _, _, _, _, _, _, z⟩ := c; exact z)
  obtain ⟨S, hl⟩ := law ns
  refine ⟨[], [], [.scr ns], ⟨rfl, List.nodup_nil, fun n ob h => by simp at h⟩, ⟨_, _, rfl, ?_, rfl⟩, ?_⟩
  · unfold RelD
    refine ⟨a, rfl, ?_⟩
    rcases hS with (h | ⟨o, h⟩) | h
    · rcases hO a with z | ⟨o, xs, z⟩
      · rw [h] at z; cases z
      · rw [h] at z; cases z
    · exact .inl ⟨o, h⟩
    · exact .inr (.inr h)
  · show PostD K [] H (fn [.scr ns] []) _ _
    rw [hl]
    intro ι' v H' _ _ _ r
    simpa [RelD] using r
end Mx

set_option maxHeartbeats 2000000
namespace Mx
open PySem L2 PySem.Spec PyProof.Rows NdefX
abbrev rowV (q : Nat) (i c z : Int) : Ob := .lst [.ref q, .int i, .int c, .int z]
theorem pd_int (S : Sto) (i : Int) : pd S 60 (.int i) = some (.int i) := rfl
theorem eqv_int (i j : Int) : PyData.eqv (.int i) (.int j) = decide (i = j) := by
  simp [PyData.eqv]
  by_cases h : i = j <;> simp [h]
theorem opEq_int (S : Sto) (i j : Int) : opEq (.int i) (.int j) S = .ok (.bl (decide (i = j))) S := by
  unfold opEq
  rw [pd_int, pd_int]
  simp [eqv_int]
theorem set_at {S : Sto} {r : Nat} {x y : Ob} (h : S[r]? = some x) : (S.set r y)[r]? = some y := by
  have := (List.getElem?_eq_some_iff.mp h).1
  rw [List.getElem?_set_self this]
theorem pick {S : Sto} {q r : Nat} {i c z m : Int} {ns : List Int} (hr : S[r]? = some (rowV q i c z)) (hq : S[q]? = some (.lst (ns.map D.int))) (hqr : q ≠ r) (hi : 0 ≤ i) (hc : 0 ≤ c) (hm : 0 < m) (hm2 : m < 2 ^ 60) :
    ∃ v i' c' z', fn13 [.ref r, .int m] S = .ok (.int v) (S.set r (rowV q i' c' z')) ∧ 0 ≤ v ∧ v < m ∧ 0 ≤ i' ∧ 0 ≤ c' := by
  have at_ : ∀ y, (S.set r y)[r]? = some y := fun y => set_at hr
  by_cases h0 : c = 0
  · subst h0
    have lst_ : ∀ y, (S.set r y)[q]? = some (.lst (ns.map D.int)) := fun y => by rw [List.getElem?_set_ne (Ne.symm hqr)]; exact hq
    have mod_ : ∀ x : Int, 0 ≤ x * 16807 % 2147483629 % m ∧ x * 16807 % 2147483629 % m < m := fun x => ⟨Int.emod_nonneg _ (by omega), Int.emod_lt_of_pos _ hm⟩
    have hm4 : m.natAbs < 2 ^ 4000 := by
      have : m.natAbs < 2 ^ 60 := by omega
      exact Nat.lt_of_lt_of_le this (Nat.pow_le_pow_right (by decide) (by decide))
    by_cases hl : i < ns.length
    · have hj : i.toNat < ns.length := by omega
      have hget : (ns.map D.int)[i.toNat]? = some (.int ns[i.toNat]) := by simp [hj]
      by_cases hb : (10 : Int) ^ 18 ≤ ns[i.toNat]
      · have hp : (0 : Int) < ns[i.toNat] := by omega
        refine ⟨ns[i.toNat] % m, i + 1, ns[i.toNat] / m, z, ?_, Int.emod_nonneg _ (by omega), Int.emod_lt_of_pos _ hm, by omega, Int.ediv_nonneg (by omega) (by omega)⟩
        have hb2 : (1000000000000000000 : Int) ≤ ns[i.toNat] := by omega
        simp [fn13, mkFn, fb13, sSeq, sIf, tB, mOp, mV, mC, mApp, aCons, aNil, R.bind, R.thn, RS.bind, opSub_, hr, hq, opEq_int, sNil, opII, sSet, fInt, Env.set, sPut, gpS, stSub, RS.noR, sRet, atI, ixN, hm, hm4, fLen, hl, hi, at_, lst_, hj, hb2, hp, opAdd]
      · refine ⟨(z * 48271 + ns[i.toNat] * 69621 + 11) % 2147483647 * 16807 % 2147483629 % m, i + 1, 0, (z * 48271 + ns[i.toNat] * 69621 + 11) % 2147483647, ?_, (mod_ _).1, (mod_ _).2, by omega, by omega⟩
        have hb2 : ¬ (1000000000000000000 : Int) ≤ ns[i.toNat] := by omega
        simp [fn13, mkFn, fb13, sSeq, sIf, tB, mOp, mV, mC, mApp, aCons, aNil, R.bind, R.thn, RS.bind, opSub_, hr, hq, opEq_int, sNil, opII, sSet, fInt, Env.set, sPut, gpS, stSub, RS.noR, sRet, atI, ixN, hm, hm4, fLen, hl, hi, at_, lst_, hj, hb2, opAdd, opMul, mulC]
    · refine ⟨(z * 48271 + 7) % 2147483647 * 16807 % 2147483629 % m, i, 0, (z * 48271 + 7) % 2147483647, ?_, (mod_ _).1, (mod_ _).2, hi, by omega⟩
      simp [fn13, mkFn, fb13, sSeq, sIf, tB, mOp, mV, mC, mApp, aCons, aNil, R.bind, R.thn, RS.bind, opSub_, hr, hq, opEq_int, sNil, opII, sSet, fInt, Env.set, sPut, gpS, stSub, RS.noR, sRet, atI, ixN, hm, hm4, fLen, hl, hi, at_, lst_, opAdd, opMul, mulC]
  · have hcp : 0 < c := by omega
    refine ⟨c % m, i, c / m, z, ?_, Int.emod_nonneg _ (by omega), Int.emod_lt_of_pos _ hm, hi, Int.ediv_nonneg hc (by omega)⟩
    have hm4 : m.natAbs < 2 ^ 4000 := by
      have : m.natAbs < 2 ^ 60 := by omega
      exact Nat.lt_of_lt_of_le this (Nat.pow_le_pow_right (by decide) (by decide))
    simp [fn13, mkFn, fb13, sSeq, sIf, tB, mOp, mV, mC, mApp, aCons, aNil, R.bind, R.thn, RS.bind, opSub_, hr, opEq_int, h0, sNil, opII, hcp, sSet, fInt, Env.set, sPut, gpS, stSub, RS.noR, sRet, atI, ixN, hm, hm4]
def Rok (S : Sto) (q r : Nat) : Prop := ∃ (ns : List Int) (i c z : Int), S[r]? = some (rowV q i c z) ∧ S[q]? = some (.lst (ns.map D.int)) ∧ q ≠ r ∧ (0 : Int) ≤ i ∧ (0 : Int) ≤ c
def Off (r : Nat) (S S' : Sto) : Prop := S'.length = S.length ∧ ∀ n, n ≠ r → S'[n]? = S[n]?
theorem Off.refl (r : Nat) (S : Sto) : Off r S S := ⟨rfl, fun _ _ => rfl⟩
theorem Off.trans {r : Nat} {S S1 S2 : Sto} (a : Off r S S1) (b : Off r S1 S2) : Off r S S2 := ⟨b.1.trans a.1, fun n h => (b.2 n h).trans (a.2 n h)⟩
theorem pickP {S : Sto} {q r : Nat} {m : Int} (h : Rok S q r) (hm : 0 < m := by decide) (hm2 : m < 2 ^ 60 := by decide) : ∃ v S', fn13 [.ref r, .int m] S = .ok (.int v) S' ∧ 0 ≤ v ∧ v < m ∧ Rok S' q r ∧ Off r S S' := by
  obtain ⟨ns, i, c, z, hr, hq, hqr, hi, hc⟩ := h
  obtain ⟨v, i', c', z', e, h1, h2, h3, h4⟩ := pick hr hq hqr hi hc hm hm2
  refine ⟨v, _, e, h1, h2, ⟨ns, i', c', z', set_at hr, by rw [List.getElem?_set_ne (Ne.symm hqr)]; exact hq, hqr, h3, h4⟩, by simp, fun n hn => by rw [List.getElem?_set_ne (Ne.symm hn)]⟩
theorem Rok.add {S : Sto} {q r : Nat} (h : Rok S q r) (T : Sto) : Rok (S ++ T) q r := by
  obtain ⟨ns, i, c, z, hr, hq, hqr, hi, hc⟩ := h
  have l1 := (List.getElem?_eq_some_iff.mp hr).1
  have l2 := (List.getElem?_eq_some_iff.mp hq).1
  exact ⟨ns, i, c, z, by rw [List.getElem?_append_left l1]; exact hr, by rw [List.getElem?_append_left l2]; exact hq, hqr, hi, hc⟩
def lk (k : Str) (xs : List Int) : D := .tup (.str k :: xs.map D.int)
def allL : List D := [lk "pip" [0], lk "pip" [1], lk "pip" [2], lk "pip" [3], lk "apart" [1], lk "apart" [2], lk "apart" [3], lk "doubles" [0], lk "doubles" [1], lk "doubles" [2], lk "doubles" [3], lk "doubles" [4],
  lk "sum" [2, 0], lk "sum" [2, 1], lk "sum" [3, 0], lk "sum" [3, 1], lk "sum" [3, 2], lk "sum" [4, 0], lk "sum" [4, 1], lk "sum" [4, 2], lk "sum" [4, 3]]
theorem lackP {S : Sto} {q r : Nat} (h : Rok S q r) : ∃ d S', fn14 [.ref r] S = .ok d S' ∧ d ∈ allL ∧ Rok S' q r ∧ Off r S S' := by
  obtain ⟨v, S1, e1, a1, b1, h1, o1⟩ := pickP (m := 5) h
  have c5 : v = 0 ∨ v = 1 ∨ v = 2 ∨ v = 3 ∨ v = 4 := by omega
  rcases c5 with rfl | rfl | rfl | h34
  · obtain ⟨w, S2, e2, a2, b2, h2, o2⟩ := pickP (m := 4) h1
    refine ⟨lk "pip" [w], S2, ?_, ?_, h2, o1.trans o2⟩
    · simp [fn14, mkFn, fb14, sSeq, sSet, mApp, aCons, aNil, mV, mC, R.bind, R.thn, RS.bind, Env.set, e1, sIf, tB, mOp, opEq_int, sRet, mTup, e2, lk, sizeLine_eq]
    · have : w = 0 ∨ w = 1 ∨ w = 2 ∨ w = 3 := by omega
      rcases this with rfl | rfl | rfl | rfl <;> simp [allL]
  · obtain ⟨w, S2, e2, a2, b2, h2, o2⟩ := pickP (m := 3) h1
    refine ⟨lk "apart" [1 + w], S2, ?_, ?_, h2, o1.trans o2⟩
    · simp [fn14, mkFn, fb14, sSeq, sSet, mApp, aCons, aNil, mV, mC, R.bind, R.thn, RS.bind, Env.set, e1, sIf, tB, mOp, opEq_int, sRet, mTup, e2, lk, sizeLine_eq, sNil, opAdd]
    · have : w = 0 ∨ w = 1 ∨ w = 2 := by omega
      rcases this with rfl | rfl | rfl <;> simp [allL]
  · obtain ⟨w, S2, e2, a2, b2, h2, o2⟩ := pickP (m := 5) h1
    refine ⟨lk "doubles" [w], S2, ?_, ?_, h2, o1.trans o2⟩
    · simp [fn14, mkFn, fb14, sSeq, sSet, mApp, aCons, aNil, mV, mC, R.bind, R.thn, RS.bind, Env.set, e1, sIf, tB, mOp, opEq_int, sRet, mTup, e2, lk, sizeLine_eq, sNil, opAdd]
    · have : w = 0 ∨ w = 1 ∨ w = 2 ∨ w = 3 ∨ w = 4 := by omega
      rcases this with rfl | rfl | rfl | rfl | rfl <;> simp [allL]
  · obtain ⟨w, S2, e2, a2, b2, h2, o2⟩ := pickP (m := 3) h1
    obtain ⟨x, S3, e3, a3, b3, h3, o3⟩ := pickP (m := 2 + w) h2 (by omega) (by omega)
    refine ⟨lk "sum" [2 + w, x], S3, ?_, ?_, h3, (o1.trans o2).trans o3⟩
    · have n0 : ¬ v = 0 := by omega
      have n1 : ¬ v = 1 := by omega
      have n2 : ¬ v = 2 := by omega
      simp [fn14, mkFn, fb14, sSeq, sSet, mApp, aCons, aNil, mV, mC, R.bind, R.thn, RS.bind, Env.set, e1, sIf, tB, mOp, opEq_int, sRet, mTup, e2, e3, lk, sizeLine_eq, sNil, opAdd, n0, n1, n2]
    · have : w = 0 ∨ w = 1 ∨ w = 2 := by omega
      rcases this with rfl | rfl | rfl
      · have : x = 0 ∨ x = 1 := by omega
        rcases this with rfl | rfl <;> simp [allL]
      · have : x = 0 ∨ x = 1 ∨ x = 2 := by omega
        rcases this with rfl | rfl | rfl <;> simp [allL]
      · have : x = 0 ∨ x = 1 ∨ x = 2 ∨ x = 3 := by omega
        rcases this with rfl | rfl | rfl | rfl <;> simp [allL]
/-! ### lacks as data -/
def pdI : D → PyData
  | .int i => .int i
  | .str x => .str x
  | _ => .none
def pdL : D → PyData
  | .tup ds => .tuple (ds.map pdI)
  | _ => .none
theorem ok1 : PyData.strOk "pip" = true := by decide +kernel
theorem ok2 : PyData.strOk "apart" = true := by decide +kernel
theorem ok3' : PyData.strOk "doubles" = true := by decide +kernel
theorem ok4' : PyData.strOk "sum" = true := by decide +kernel
theorem pd_L {d : D} (h : d ∈ allL) (S : Sto) (f : Nat) : pd S (f + 3) d = some (pdL d) := by
  simp only [allL, List.mem_cons, List.not_mem_nil, or_false] at h
  rcases h with rfl | rfl | rfl | rfl | rfl | rfl | rfl | rfl | rfl | rfl | rfl | rfl | rfl | rfl | rfl | rfl | rfl | rfl | rfl | rfl | rfl <;> simp [lk, pd, mapO, pdL, pdI, ok1, ok2, ok3', ok4']
theorem map_L (S : Sto) (f : Nat) : ∀ {ds : List D}, (∀ d ∈ ds, d ∈ allL) → mapO (fun d => pd S (f + 3) d) ds = some (ds.map pdL)
  | [], _ => rfl
  | d :: ds, h => by
    unfold mapO
    rw [pd_L (h d List.mem_cons_self), map_L S f fun x hx => h x (List.mem_cons_of_mem _ hx)]
    rfl
theorem pd_Ls {ds : List D} (h : ∀ d ∈ ds, d ∈ allL) (S : Sto) (f : Nat) : pd S (f + 4) (.tup ds) = some (.tuple (ds.map pdL)) := by
  show (mapO (fun d => pd S (f + 3) d) ds).map PyData.tuple = _
  rw [map_L S f h]
  rfl
def eqL (a b : D) : Bool := PyData.eqv (pdL a) (pdL b)
/-- lacks of a box: at most two, apart -/
def OkL (ls : List D) : Prop := ls = [] ∨ (∃ a ∈ allL, ls = [a]) ∨ ∃ a ∈ allL, ∃ b ∈ allL, ls = [a, b] ∧ eqL a b = false
theorem OkL.all {ls : List D} (h : OkL ls) : ∀ d ∈ ls, d ∈ allL := by
  rcases h with rfl | ⟨a, ha, rfl⟩ | ⟨a, ha, b, hb, rfl, _⟩
  · simp
  · simpa using ha
  · intro d hd
    simp only [List.mem_cons, List.not_mem_nil, or_false] at hd
    rcases hd with rfl | rfl
    · exact ha
    · exact hb
theorem in_L {neg : Bool} {x : D} {ls : List D} (hx : x ∈ allL) (h : ∀ d ∈ ls, d ∈ allL) (S : Sto) : opIn neg x (.tup ls) S = .ok (.bl (xor neg (ls.any fun z => eqL z x))) S := by
  unfold opIn
  rw [pd_L hx S 57, pd_Ls h S 56]
  simp [List.any_map, eqL, Function.comp_def]
theorem Rok.lt {S : Sto} {q r : Nat} (h : Rok S q r) : q < S.length ∧ r < S.length := by
  obtain ⟨ns, i, c, z, hr, hq, _⟩ := h
  exact ⟨(List.getElem?_eq_some_iff.mp hq).1, (List.getElem?_eq_some_iff.mp hr).1⟩
theorem Rok.take {S : Sto} {q r n : Nat} (h : Rok S q r) (hq : q < n) (hr : r < n) : Rok (S.take n) q r := by
  obtain ⟨ns, i, c, z, h1, h2, h3⟩ := h
  exact ⟨ns, i, c, z, by rw [List.getElem?_take_of_lt hr]; exact h1, by rw [List.getElem?_take_of_lt hq]; exact h2, h3⟩
theorem set_last {S : Sto} {n : Nat} {x : Ob} (h : S.length = n + 1) : S.set n x = S.take n ++ [x] := by
  apply List.ext_getElem?
  intro i
  by_cases e : i = n
  · subst e
    have hk : (S.take i).length = i := by rw [List.length_take]; omega
    rw [List.getElem?_set_self (by omega), List.getElem?_append_right (by omega), hk]
    simp
  · rw [List.getElem?_set_ne (Ne.symm e)]
    by_cases l : i < n
    · rw [List.getElem?_append_left (by simp; omega), List.getElem?_take_of_lt l]
    · rw [List.getElem?_eq_none (by omega), List.getElem?_eq_none (by simp; omega)]
def boxK (b : Bool) (c : Int) (ls : List D) : List (Key × D) := [(.inr "doubles", .bl b), (.inr "copies", .int c), (.inr "lacks", .tup ls)]
theorem merge_box {b : Bool} {c : Int} {ls : List D} : mergeD [] [(.inr "doubles", .bl b), (.inr "copies", .int c), (.inr "lacks", .tup ls)] = boxK b c ls := by rfl
def RS.out : RS → R D
  | .nx _ S => .ok .non S
  | .rt d S => .ok d S
  | .exc e _ S => .exc e S
  | .bad => .bad
theorem mk_fn {n N : Nat} {b : Stm} {ds : List D} {S : Sto} (h : ds.length = n) : mkFn n N b ds S = (b ⟨ds.map some ++ List.replicate (N - n) none, none⟩ S).out := by
  unfold mkFn
  rw [if_pos h]
  cases b ⟨ds.map some ++ List.replicate (N - n) none, none⟩ S <;> rfl
theorem seq_nx {a b : Stm} {ρ ρ' : Env} {S S' : Sto} (h : a ρ S = .nx ρ' S') : sSeq a b ρ S = b ρ' S' := by unfold sSeq; rw [h]; rfl
theorem drawnP {S : Sto} {q r : Nat} (h : Rok S q r) : ∃ b c ls S', fn15 [.ref r] S = .ok (.ref S.length) (S' ++ [.dic false (boxK b c ls)]) ∧ Rok S' q r ∧ Off r S S' ∧ 1 ≤ c ∧ c ≤ 3 ∧ OkL ls := by
  obtain ⟨n, S1, e1, a1, b1, h1, o1⟩ := pickP (m := 3) h
  have lacks : ∃ ls S2, OkL ls ∧ Rok S2 q r ∧ Off r S1 S2 ∧ ∃ x y, loop (rngI 0 n) (gN 2) (sSeq (sSet 3 (mApp fn14 (aCons (mV 0) aNil))) (sIf (tB (mOp (opIn true) (mV 3) (mV 1))) (sSet 1 (mOp opAdd (mV 1) (mTup (aCons (mV 3) aNil)))) sNil)) (rngI 0 n).n 0 ⟨[some (.ref r), some (.tup []), none, none], none⟩ S1 = .nx ⟨[some (.ref r), some (.tup ls), x, y], none⟩ S2 := by
    have c3 : n = 0 ∨ n = 1 ∨ n = 2 := by omega
    rcases c3 with rfl | rfl | rfl
    · exact ⟨[], S1, .inl rfl, h1, Off.refl r S1, none, none, rfl⟩
    · obtain ⟨d, S2, e2, hd, h2, o2⟩ := lackP h1
      refine ⟨[d], S2, .inr (.inl ⟨d, hd, rfl⟩), h2, o2, some (.int 0), some d, ?_⟩
      have i0 := in_L (neg := true) (ls := []) hd (by simp) S2
      simp [rngI, loop, gN, sSeq, sSet, mApp, aCons, aNil, mV, R.bind, R.thn, RS.bind, Env.set, e2, sIf, tB, mOp, i0, opAdd, mTup, sizeLine_eq]
    · obtain ⟨d, S2, e2, hd, h2, o2⟩ := lackP h1
      obtain ⟨d2, S3, e3, hd2, h3, o3⟩ := lackP h2
      have i0 := in_L (neg := true) (ls := []) hd (by simp) S2
      have i1 := in_L (neg := true) (ls := [d]) hd2 (by simpa using hd) S3
      cases q : eqL d d2 with
      | true =>
        refine ⟨[d], S3, .inr (.inl ⟨d, hd, rfl⟩), h3, o2.trans o3, some (.int 1), some d2, ?_⟩
        simp [rngI, loop, gN, sSeq, sSet, mApp, aCons, aNil, mV, R.bind, R.thn, RS.bind, Env.set, e2, e3, sIf, tB, mOp, i0, i1, q, opAdd, mTup, sizeLine_eq, sNil]
      | false =>
        refine ⟨[d, d2], S3, .inr (.inr ⟨d, hd, d2, hd2, rfl, q⟩), h3, o2.trans o3, some (.int 1), some d2, ?_⟩
        simp [rngI, loop, gN, sSeq, sSet, mApp, aCons, aNil, mV, R.bind, R.thn, RS.bind, Env.set, e2, e3, sIf, tB, mOp, i0, i1, q, opAdd, mTup, sizeLine_eq, sNil]
  obtain ⟨ls, S2, ok, h2, o2, x, y, el⟩ := lacks
  have hA := h2.add [.dic false []]
  obtain ⟨l1, l2⟩ := h2.lt
  obtain ⟨u, S3, e3, a3, b3, h3, o3⟩ := pickP (m := 2) hA
  obtain ⟨t, S4, e4, a4, b4, h4, o4⟩ := pickP (m := 3) h3
  have o34 := o3.trans o4
  have hl : S4.length = S2.length + 1 := by rw [o34.1]; simp
  have hd : S4[S2.length]? = some (.dic false []) := by rw [o34.2 _ (by omega)]; simp
  have hs : S2.length = S.length := by rw [o2.1, o1.1]
  refine ⟨decide (u = 0), 1 + t, ls, S4.take S2.length, ?_, h4.take l1 l2, ⟨by simp; omega, fun n hn => ?_⟩, by omega, by omega, ok⟩
  · rw [← hs]
    have el : sFor (itR1 (mApp fn13 (aCons (mV 0) (aCons (mC (.int 3)) aNil)))) (gN 2) (sSeq (sSet 3 (mApp fn14 (aCons (mV 0) aNil))) (sIf (tB (mOp (opIn true) (mV 3) (mV 1))) (sSet 1 (mOp opAdd (mV 1) (mTup (aCons (mV 3) aNil)))) sNil)) ⟨[some (.ref r), some (.tup []), none, none], none⟩ S = .nx ⟨[some (.ref r), some (.tup ls), x, y], none⟩ S2 := by
      have n1 : -(2 ^ 62) ≤ n ∧ n < 2 ^ 62 := by omega
      have it : (itR1 (mApp fn13 (aCons (mV 0) (aCons (mC (.int 3)) aNil)))) ⟨[some (.ref r), some (.tup []), none, none], none⟩ S = .ok (rngI 0 n) S1 := by
        simp [itR1, mApp, aCons, aNil, mV, mC, R.bind, e1]
        omega
      unfold sFor
      rw [it]
      exact el
    have e0 : sSet 1 (mTup aNil) ⟨[some (D.ref r), none, none, none], none⟩ S = .nx ⟨[some (.ref r), some (.tup []), none, none], none⟩ S := by
      simp [sSet, mTup, aNil, R.bind, R.thn, Env.set, sizeLine_eq]
    unfold fn15
    rw [mk_fn (n := 1) (ds := [D.ref r]) rfl]
    unfold fb15
    rw [show (⟨List.map some [D.ref r] ++ List.replicate (4 - 1) none, none⟩ : Env) = ⟨[some (D.ref r), none, none, none], none⟩ from rfl, seq_nx e0, seq_nx el]
    simp [RS.out, RS.bind, sRet, mDisp, pPairs, mC, mV, mOp, mApp, aCons, aNil, R.bind, R.thn, e3, e4, opEq_int, opAdd, keyed, keyD, hd, merge_box, set_last hl]
  · by_cases hn2 : n < S2.length
    · rw [List.getElem?_take_of_lt hn2, o34.2 n hn, List.getElem?_append_left hn2, o2.2 n hn, o1.2 n hn]
    · rw [List.getElem?_eq_none (by simp; omega), List.getElem?_eq_none (by omega)]
end Mx

set_option maxHeartbeats 2000000
namespace Mx
open PySem L2 PySem.Spec PyProof.Rows NdefX
theorem ok5' : PyData.strOk "some" = true := by decide +kernel
theorem f3i (i : Int) (S : Sto) : fn3 [.int i] S = .ok (.bl true) S := by
  simp [fn3, mkFn, fb3, sRet, mAnd, mApp, aCons, aNil, mV, mC, mNot, R.bind, R.thn, fIsi, tyOf, isB]
theorem f3b (i : Bool) (S : Sto) : fn3 [.bl i] S = .ok (.bl false) S := by
  simp [fn3, mkFn, fb3, sRet, mAnd, mApp, aCons, aNil, mV, mC, mNot, R.bind, R.thn, fIsi, tyOf, isB]
theorem f3s (i : Str) (S : Sto) : fn3 [.str i] S = .ok (.bl false) S := by
  simp [fn3, mkFn, fb3, sRet, mAnd, mApp, aCons, aNil, mV, mC, mNot, R.bind, R.thn, fIsi, tyOf, isB]
theorem f3n (S : Sto) : fn3 [.non] S = .ok (.bl false) S := by
  simp [fn3, mkFn, fb3, sRet, mAnd, mApp, aCons, aNil, mV, mC, mNot, R.bind, R.thn, fIsi, tyOf, isB]
theorem f4i (i a b : Int) (S : Sto) : fn4 [.int i, .int a, .int b] S = .ok (.bl (decide (a ≤ i) && decide (i ≤ b))) S := by
  by_cases h : a ≤ i <;> simp [fn4, mkFn, fb4, sRet, mAnd, mApp, aCons, aNil, mV, mC, mChain, R.bind, R.thn, f3i, opII, h]
theorem f4x {x : D} (a b : Int) (S : Sto) (h : fn3 [x] S = .ok (.bl false) S) : fn4 [x, .int a, .int b] S = .ok (.bl false) S := by
  simp [fn4, mkFn, fb4, sRet, mAnd, mApp, aCons, aNil, mV, mC, R.bind, R.thn, h]
theorem eqv_str (x y : Str) : PyData.eqv (.str x) (.str y) = decide (x = y) := by
  simp [PyData.eqv]
  by_cases h : x = y <;> simp [h]
theorem opIn_str {x : Str} {xs : List Str} (hx : PyData.strOk x = true) (hs : ∀ y ∈ xs, PyData.strOk y = true) (S : Sto) : opIn false (.str x) (.tup (xs.map D.str)) S = .ok (.bl (xs.any fun y => decide (y = x))) S := by
  have e : ∀ xs : List Str, (∀ y ∈ xs, PyData.strOk y = true) → mapO (fun d => pd S 59 d) (xs.map D.str) = some (xs.map PyData.str) := by
    intro xs
    induction xs with
    | nil => exact fun _ => rfl
    | cons a r ih =>
      intro h
      rw [List.map_cons]
      unfold mapO
      rw [ih fun y hy => h y (List.mem_cons_of_mem _ hy), show pd S 59 (.str a) = some (.str a) from by simp [pd, h a List.mem_cons_self]]
      rfl
  unfold opIn
  rw [show pd S 60 (.str x) = some (.str x) from by simp [pd, hx], show pd S 60 (.tup (xs.map D.str)) = some (.tuple (xs.map PyData.str)) from by
    show (mapO (fun d => pd S 59 d) (xs.map D.str)).map PyData.tuple = _
    rw [e xs hs]; rfl]
  simp [List.any_map, Function.comp_def, eqv_str]
theorem f5s {x : Str} {xs : List Str} (hx : PyData.strOk x = true) (hs : ∀ y ∈ xs, PyData.strOk y = true) (S : Sto) : fn5 [.str x, .tup (xs.map D.str)] S = .ok (.bl (xs.any fun y => decide (y = x))) S := by
  have h := opIn_str hx hs S
  simp [fn5, mkFn, fb5, sRet, mAnd, mApp, aCons, aNil, mV, mC, mOp, R.bind, R.thn, fIsi, tyOf, isB, h]
theorem f5i (i : Int) (y : D) (S : Sto) : fn5 [.int i, y] S = .ok (.bl false) S := by
  simp [fn5, mkFn, fb5, sRet, mAnd, mApp, aCons, aNil, mV, mC, mOp, R.bind, R.thn, fIsi, tyOf, isB]
theorem f5k1 (x : Str) (hx : PyData.strOk x = true) (S : Sto) : fn5 [.str x, .tup [.str "apart", .str "doubles", .str "pip"]] S = .ok (.bl (decide ("apart" = x) || (decide ("doubles" = x) || decide ("pip" = x)))) S := by
  have h := f5s (xs := ["apart", "doubles", "pip"]) hx (by simp [ok1, ok2, ok3']) S
  simpa using h
theorem f5k2 (x : Str) (hx : PyData.strOk x = true) (S : Sto) : fn5 [.str x, .tup [.str "sum"]] S = .ok (.bl (decide ("sum" = x))) S := by
  have h := f5s (xs := ["sum"]) hx (by simp [ok4']) S
  simpa using h
theorem tl1 : tab_BOUNDS.lookup ("pip" : Str) = some (.tup [.int 0, .int 3]) := by rfl
theorem tl2 : tab_BOUNDS.lookup ("apart" : Str) = some (.tup [.int 1, .int 3]) := by rfl
theorem tl3 : tab_BOUNDS.lookup ("doubles" : Str) = some (.tup [.int 0, .int 4]) := by rfl
def isBd (k : Str) : Bool := decide ("apart" = k) || (decide ("doubles" = k) || decide ("pip" = k))
theorem ix0 (d : D) (xs : List D) (S : Sto) : opSub_ (.tup (d :: xs)) (.int 0) S = .ok d S := by
  simp [opSub_, atI, ixN]
theorem ix1 (d e : D) (xs : List D) (S : Sto) : opSub_ (.tup (d :: e :: xs)) (.int 1) S = .ok e S := by
  have : (1 : Int) < (xs.length : Int) + 1 + 1 := by omega
  simp [opSub_, atI, ixN, this]
theorem ix2 (d e f : D) (xs : List D) (S : Sto) : opSub_ (.tup (d :: e :: f :: xs)) (.int 2) S = .ok f S := by
  have : (2 : Int) < (xs.length : Int) + 1 + 1 + 1 := by omega
  simp [opSub_, atI, ixN, this]
theorem opNe_int (S : Sto) (i j : Int) : opNe (.int i) (.int j) S = .ok (.bl (!decide (i = j))) S := by
  unfold opNe
  rw [pd_int, pd_int]
  simp [eqv_int]
theorem isTup (ds : List D) (S : Sto) : fIsi owns [.tup ds, .ty "tuple"] S = .ok (.bl true) S := by simp [fIsi, tyOf, isB]
theorem lenT (ds : List D) (S : Sto) : fLen [.tup ds] S = .ok (.int ds.length) S := rfl
section
variable {k : Str} {lo hi : Int} {x y : D} {xs : List D} {S : Sto} {b : Bool}
theorem f6b1 (hk : PyData.strOk k = true) (hb : isBd k = true) (hl : tab_BOUNDS.lookup k = some (.tup [.int lo, .int hi])) (h : fn4 [x, .int lo, .int hi] S = .ok (.bl b) S) : fn6 [.tup [.str k, x]] S = .ok (.bl b) S := by
  have h5 := f5k1 k hk S
  unfold isBd at hb
  rw [hb] at h5
  simp [fn6, mkFn, fb6, sSeq, sIf, Mx.tOr, Mx.tNot, tB, mApp, aCons, aNil, mV, mC, mOp, R.bind, R.thn, RS.bind, isTup, lenT, opEq_int, sNil, ix0, ix1, h5, Mx.sAsg, gT, gsCons, gsNil, gN, mTab, hl, Env.set, sRet, mAnd, h]
theorem f6b2 (hk : PyData.strOk k = true) (hb : isBd k = true) (hl : tab_BOUNDS.lookup k = some (.tup [.int lo, .int hi])) (h : ¬ ((xs.length : Int) + 1 = 2)) : fn6 [.tup (.str k :: xs)] S = .ok (.bl false) S := by
  have h5 := f5k1 k hk S
  unfold isBd at hb
  rw [hb] at h5
  have h0 : ¬ ((xs.length : Int) + 1 = 0) := by omega
  simp [fn6, mkFn, fb6, sSeq, sIf, Mx.tOr, Mx.tNot, tB, mApp, aCons, aNil, mV, mC, mOp, R.bind, R.thn, RS.bind, isTup, lenT, opEq_int, sNil, ix0, h5, Mx.sAsg, gT, gsCons, gsNil, gN, mTab, hl, Env.set, sRet, mAnd, h, h0]
theorem f5sum1 (S : Sto) : fn5 [.str "sum", .tup [.str "apart", .str "doubles", .str "pip"]] S = .ok (.bl false) S := by rw [f5k1 "sum" ok4' S]; rfl
theorem f5sum2 (S : Sto) : fn5 [.str "sum", .tup [.str "sum"]] S = .ok (.bl true) S := by rw [f5k2 "sum" ok4' S]; rfl
theorem f6s1 (h : ¬ ((xs.length : Int) + 1 = 3)) : fn6 [.tup (.str "sum" :: xs)] S = .ok (.bl false) S := by
  have h0 : ¬ ((xs.length : Int) + 1 = 0) := by omega
  simp [fn6, mkFn, fb6, sSeq, sIf, Mx.tOr, Mx.tNot, tB, mApp, aCons, aNil, mV, mC, mOp, R.bind, R.thn, RS.bind, isTup, lenT, opEq_int, opNe_int, sNil, ix0, f5sum1, f5sum2, mTup, sizeLine_eq, sRet, h, h0]
theorem f6s2 (h : fn4 [x, .int 2, .int 4] S = .ok (.bl false) S) : fn6 [.tup [.str "sum", x, y]] S = .ok (.bl false) S := by
  simp [fn6, mkFn, fb6, sSeq, sIf, Mx.tOr, Mx.tNot, tB, mApp, aCons, aNil, mV, mC, mOp, R.bind, R.thn, RS.bind, isTup, lenT, opEq_int, opNe_int, sNil, ix0, ix1, f5sum1, f5sum2, mTup, sizeLine_eq, sRet, h]
theorem f6s3 {s : Int} (h : fn4 [.int s, .int 2, .int 4] S = .ok (.bl true) S) (h2 : fn4 [y, .int 0, .int (s - 1)] S = .ok (.bl b) S) : fn6 [.tup [.str "sum", .int s, y]] S = .ok (.bl b) S := by
  simp [fn6, mkFn, fb6, sSeq, sIf, Mx.tOr, Mx.tNot, tB, mApp, aCons, aNil, mV, mC, mOp, R.bind, R.thn, RS.bind, isTup, lenT, opEq_int, opNe_int, sNil, ix0, ix1, ix2, f5sum1, f5sum2, mTup, sizeLine_eq, sRet, h, h2, opII]
theorem f6o1 (hk : PyData.strOk k = true) (hb : isBd k = false) (hs : ("sum" : Str) ≠ k) : fn6 [.tup (.str k :: xs)] S = .ok (.bl false) S := by
  have h5 := f5k1 k hk S
  unfold isBd at hb
  rw [hb] at h5
  have h6 := f5k2 k hk S
  rw [decide_eq_false hs] at h6
  have h0 : ¬ ((xs.length : Int) + 1 = 0) := by omega
  simp [fn6, mkFn, fb6, sSeq, sIf, Mx.tOr, Mx.tNot, tB, mApp, aCons, aNil, mV, mC, mOp, R.bind, R.thn, RS.bind, isTup, lenT, opEq_int, sNil, ix0, h5, h6, mTup, sizeLine_eq, sRet, h0]
theorem f6o2 {i : Int} : fn6 [.tup (.int i :: xs)] S = .ok (.bl false) S := by
  have h0 : ¬ ((xs.length : Int) + 1 = 0) := by omega
  simp [fn6, mkFn, fb6, sSeq, sIf, Mx.tOr, Mx.tNot, tB, mApp, aCons, aNil, mV, mC, mOp, R.bind, R.thn, RS.bind, isTup, lenT, opEq_int, sNil, ix0, f5i, mTup, sizeLine_eq, sRet, h0]
theorem f6e : fn6 [.tup []] S = .ok (.bl false) S := by
  simp [fn6, mkFn, fb6, sSeq, sIf, Mx.tOr, Mx.tNot, tB, mApp, aCons, aNil, mV, mC, mOp, R.bind, R.thn, RS.bind, isTup, lenT, opEq_int, sRet]
theorem f6n (h : fIsi owns [x, .ty "tuple"] S = .ok (.bl false) S) : fn6 [x] S = .ok (.bl false) S := by
  simp [fn6, mkFn, fb6, sSeq, sIf, Mx.tOr, Mx.tNot, tB, mApp, aCons, aNil, mV, mC, mOp, R.bind, R.thn, RS.bind, h, sRet]
end
theorem isL {d : D} (h : d ∈ allL) (S : Sto) : fn6 [d] S = .ok (.bl true) S := by
  have p : ∀ v : Int, 0 ≤ v → v ≤ 3 → fn6 [lk "pip" [v]] S = .ok (.bl true) S := fun v a b => f6b1 ok1 (by decide) tl1 (by rw [f4i]; simp [a, b])
  have ap : ∀ v : Int, 1 ≤ v → v ≤ 3 → fn6 [lk "apart" [v]] S = .ok (.bl true) S := fun v a b => f6b1 ok2 (by decide) tl2 (by rw [f4i]; simp [a, b])
  have db : ∀ v : Int, 0 ≤ v → v ≤ 4 → fn6 [lk "doubles" [v]] S = .ok (.bl true) S := fun v a b => f6b1 ok3' (by decide) tl3 (by rw [f4i]; simp [a, b])
  have sm : ∀ s v : Int, 2 ≤ s → s ≤ 4 → 0 ≤ v → v ≤ s - 1 → fn6 [lk "sum" [s, v]] S = .ok (.bl true) S := fun s v a b c e => f6s3 (by rw [f4i]; simp [a, b]) (by rw [f4i]; simp [c, e])
  simp only [allL, List.mem_cons, List.not_mem_nil, or_false] at h
  rcases h with rfl | rfl | rfl | rfl | rfl | rfl | rfl | rfl | rfl | rfl | rfl | rfl | rfl | rfl | rfl | rfl | rfl | rfl | rfl | rfl | rfl <;>
    first | exact p _ (by decide) (by decide) | exact ap _ (by decide) (by decide) | exact db _ (by decide) (by decide) | exact sm _ _ (by decide) (by decide) (by decide) (by decide)
end Mx

set_option maxHeartbeats 2000000
namespace Mx
open PySem L2 PySem.Spec PyProof.Rows NdefX
def bk (b : Bool) (c : Int) (ls : List D) : List (Str × D) := [("is_double", .bl b), ("many", .int c), ("holes", .tup ls)]
theorem mkn : mkx_BadLack [.non] = some [(("index" : Str), D.non)] := by rfl
theorem mk_0 : mkx_BadLack [.int 0] = some [(("index" : Str), D.int 0)] := by
  show (if fmOk (.int 0) = true then some [(("index" : Str), D.int 0)] else none) = _
  rw [if_pos (by decide +kernel)]
theorem mk_1 : mkx_BadLack [.int 1] = some [(("index" : Str), D.int 1)] := by
  show (if fmOk (.int 1) = true then some [(("index" : Str), D.int 1)] else none) = _
  rw [if_pos (by decide +kernel)]
section
variable {n : Nat} {x y z : D} {b : Bool} {c : Int} {S : Sto} {ls : List D}
theorem ct1 (h : fIsi owns [x, .ty "bool"] S = .ok (.bl false) S) : fn7 [.ref n, x, y, z] S = .exc ⟨"BadDoubles", []⟩ S := by
  unfold fn7
  rw [mk_fn (n := 4) rfl]
  simp [RS.out, fb7, sSeq, sIf, Mx.tNot, tB, mApp, aCons, aNil, mV, mC, R.bind, R.thn, RS.bind, h, sRaise, mk0]
theorem isBool (b : Bool) (S : Sto) : fIsi owns [.bl b, .ty "bool"] S = .ok (.bl true) S := by simp [fIsi, tyOf, isB]
theorem ct2 (h : fn4 [y, .int 1, .int 3] S = .ok (.bl false) S) : fn7 [.ref n, .bl b, y, z] S = .exc ⟨"BadCopies", []⟩ S := by
  unfold fn7
  rw [mk_fn (n := 4) rfl]
  simp [RS.out, fb7, sSeq, sIf, Mx.tNot, tB, mApp, aCons, aNil, mV, mC, R.bind, R.thn, RS.bind, isBool, sNil, h, sRaise, mk0]
theorem ct3 (hc : fn4 [.int c, .int 1, .int 3] S = .ok (.bl true) S) (h : fIsi owns [z, .ty "tuple"] S = .ok (.bl false) S) : fn7 [.ref n, .bl b, .int c, z] S = .exc ⟨"BadLack", [("index", .non)]⟩ S := by
  unfold fn7
  rw [mk_fn (n := 4) rfl]
  simp [RS.out, fb7, sSeq, sIf, Mx.tNot, Mx.tOr, tB, mApp, aCons, aNil, mV, mC, R.bind, R.thn, RS.bind, isBool, sNil, hc, h, sRaise, mkn]
theorem ct3' (hc : fn4 [.int c, .int 1, .int 3] S = .ok (.bl true) S) (h : 2 < ls.length) : fn7 [.ref n, .bl b, .int c, .tup ls] S = .exc ⟨"BadLack", [("index", .non)]⟩ S := by
  have h2 : (2 : Int) < (ls.length : Int) := by omega
  unfold fn7
  rw [mk_fn (n := 4) rfl]
  simp [RS.out, fb7, sSeq, sIf, Mx.tNot, Mx.tOr, tB, mApp, aCons, aNil, mV, mC, mOp, R.bind, R.thn, RS.bind, isBool, isTup, lenT, opII, sNil, hc, h2, sRaise, mkn]
/-- the loop over the lacks -/
def lpB : Stm := sIf (Mx.tOr (Mx.tNot (tB (mApp fn6 (aCons (mV 5) aNil)))) (tB (mOp (opIn false) (mV 5) (mSlice (mV 3) oNone (oSome (mV 4)))))) (sRaise "BadLack" mkx_BadLack (aCons (mV 4) aNil)) sNil
def lpF (ls : List D) (ρ : Env) (S : Sto) : RS := sFor (itE (mV 3)) (gT 2 (gsCons (gN 4) (gsCons (gN 5) gsNil))) lpB ρ S
def en (a x y z p q : Option D) : Env := ⟨[a, x, y, z, p, q], none⟩
theorem ct_loop (hc : fn4 [.int c, .int 1, .int 3] S = .ok (.bl true) S) (h : ls.length ≤ 2) : fn7 [.ref n, .bl b, .int c, .tup ls] S = ((lpF ls (en (some (.ref n)) (some (.bl b)) (some (.int c)) (some (.tup ls)) none none) S).bind
    (sSeq (Mx.sFld "Box" "is_double" (mV 0) (mV 1)) (sSeq (Mx.sFld "Box" "many" (mV 0) (mV 2)) (Mx.sFld "Box" "holes" (mV 0) (mV 3))))).out := by
  have h2 : ¬ (2 : Int) < (ls.length : Int) := by omega
  unfold fn7
  rw [mk_fn (n := 4) rfl]
  unfold fb7
  rw [seq_nx (ρ' := en (some (.ref n)) (some (.bl b)) (some (.int c)) (some (.tup ls)) none none) (S' := S), seq_nx (ρ' := en (some (.ref n)) (some (.bl b)) (some (.int c)) (some (.tup ls)) none none) (S' := S), seq_nx (ρ' := en (some (.ref n)) (some (.bl b)) (some (.int c)) (some (.tup ls)) none none) (S' := S)]
  · rfl
  · simp [en, sIf, Mx.tNot, Mx.tOr, tB, mApp, aCons, aNil, mV, mC, mOp, R.bind, R.thn, isTup, lenT, opII, sNil, h2]
  · simp [en, sIf, Mx.tNot, tB, mApp, aCons, aNil, mV, mC, R.bind, R.thn, hc, sNil]
  · simp [en, sIf, Mx.tNot, tB, mApp, aCons, aNil, mV, mC, R.bind, R.thn, isBool, sNil]
theorem sl0 (ls : List D) (S : Sto) : slD (.tup ls) none (some 0) S = .ok (.tup []) S := by
  simp [slD, cutD, HT.sIx]
theorem sl1 (a d : D) (S : Sto) : slD (.tup [a, d]) none (some 1) S = .ok (.tup [a]) S := by
  simp [slD, cutD, HT.sIx]
end
end Mx

set_option maxHeartbeats 2000000
namespace Mx
open PySem L2 PySem.Spec PyProof.Rows NdefX
section
variable {n : Nat} {d a e : D} {x y z p q : Option D} {b : Bool} {c : Int} {S : Sto} {ls rest : List D}
theorem in0 (hd : d ∈ allL) (S : Sto) : opIn false d (.tup []) S = .ok (.bl false) S := by
  have h := in_L (neg := false) (ls := []) hd (by simp) S
  simpa using h
theorem in1 (ha : a ∈ allL) (hd : d ∈ allL) (S : Sto) : opIn false d (.tup [a]) S = .ok (.bl (eqL a d)) S := by
  have h := in_L (neg := false) (ls := [a]) hd (by simpa using ha) S
  simpa using h
theorem lp_go0 (hd : d ∈ allL) : lpB (en x y z (some (.tup (d :: rest))) (some (.int 0)) (some d)) S = .nx (en x y z (some (.tup (d :: rest))) (some (.int 0)) (some d)) S := by
  simp [en, lpB, sIf, Mx.tOr, Mx.tNot, tB, mApp, aCons, aNil, mV, R.bind, R.thn, isL hd, mOp, mSlice, oNone, oSome, mC, sl0, in0 hd, sNil]
theorem lp_bad0 (h : fn6 [d] S = .ok (.bl false) S) : lpB (en x y z p (some (.int 0)) (some d)) S = .exc ⟨"BadLack", [("index", .int 0)]⟩ (en x y z p (some (.int 0)) (some d)) S := by
  simp [en, lpB, sIf, Mx.tOr, Mx.tNot, tB, mApp, aCons, aNil, mV, R.bind, R.thn, h, sRaise, mk_0]
theorem lp_bad1 (h : fn6 [d] S = .ok (.bl false) S) : lpB (en x y z p (some (.int 1)) (some d)) S = .exc ⟨"BadLack", [("index", .int 1)]⟩ (en x y z p (some (.int 1)) (some d)) S := by
  simp [en, lpB, sIf, Mx.tOr, Mx.tNot, tB, mApp, aCons, aNil, mV, R.bind, R.thn, h, sRaise, mk_1]
theorem lp_go1 (ha : a ∈ allL) (hd : d ∈ allL) (h : eqL a d = false) : lpB (en x y z (some (.tup [a, d])) (some (.int 1)) (some d)) S = .nx (en x y z (some (.tup [a, d])) (some (.int 1)) (some d)) S := by
  simp [en, lpB, sIf, Mx.tOr, Mx.tNot, tB, mApp, aCons, aNil, mV, R.bind, R.thn, isL hd, mOp, mSlice, oNone, oSome, mC, sl1, in1 ha hd, h, sNil]
theorem lp_dup (ha : a ∈ allL) (hd : d ∈ allL) (h : eqL a d = true) : lpB (en x y z (some (.tup [a, d])) (some (.int 1)) (some d)) S = .exc ⟨"BadLack", [("index", .int 1)]⟩ (en x y z (some (.tup [a, d])) (some (.int 1)) (some d)) S := by
  simp [en, lpB, sIf, Mx.tOr, Mx.tNot, tB, mApp, aCons, aNil, mV, R.bind, R.thn, isL hd, mOp, mSlice, oNone, oSome, mC, sl1, in1 ha hd, h, sRaise, mk_1]
abbrev Bl (i : Int) : Xc := ⟨"BadLack", [("index", .int i)]⟩
theorem lpF0 : lpF [] (en x y z (some (.tup [])) p q) S = .nx (en x y z (some (.tup [])) p q) S := by
  simp [lpF, sFor, itE, mV, en, R.bind, R.thn, loop]
theorem lpF1 (hd : d ∈ allL) : lpF [d] (en x y z (some (.tup [d])) none none) S = .nx (en x y z (some (.tup [d])) (some (.int 0)) (some d)) S := by
  have h := lp_go0 (rest := []) (x := x) (y := y) (z := z) (S := S) hd
  unfold en at h ⊢
  simp [lpF, sFor, itE, mV, R.bind, R.thn, loop, gT, gsCons, gsNil, gN, Env.set, h, RS.bind]
theorem lpF2 (ha : a ∈ allL) (hd : d ∈ allL) (e : eqL a d = false) : lpF [a, d] (en x y z (some (.tup [a, d])) none none) S = .nx (en x y z (some (.tup [a, d])) (some (.int 1)) (some d)) S := by
  have h := lp_go0 (rest := [d]) (x := x) (y := y) (z := z) (S := S) ha
  have h2 := lp_go1 (x := x) (y := y) (z := z) (S := S) ha hd e
  unfold en at h h2 ⊢
  simp [lpF, sFor, itE, mV, R.bind, R.thn, loop, gT, gsCons, gsNil, gN, Env.set, h, h2, RS.bind]
theorem lpFb0 (h : fn6 [d] S = .ok (.bl false) S) : lpF (d :: rest) (en x y z (some (.tup (d :: rest))) none none) S = .exc (Bl 0) (en x y z (some (.tup (d :: rest))) (some (.int 0)) (some d)) S := by
  have h := lp_bad0 (x := x) (y := y) (z := z) (p := some (.tup (d :: rest))) (S := S) h
  unfold en at h ⊢
  simp [lpF, sFor, itE, mV, R.bind, R.thn, loop, gT, gsCons, gsNil, gN, Env.set, h, RS.bind]
theorem lpFb1 (ha : a ∈ allL) (h : fn6 [d] S = .ok (.bl false) S) : lpF [a, d] (en x y z (some (.tup [a, d])) none none) S = .exc (Bl 1) (en x y z (some (.tup [a, d])) (some (.int 1)) (some d)) S := by
  have h1 := lp_go0 (rest := [d]) (x := x) (y := y) (z := z) (S := S) ha
  have h2 := lp_bad1 (x := x) (y := y) (z := z) (p := some (.tup [a, d])) (S := S) h
  unfold en at h1 h2 ⊢
  simp [lpF, sFor, itE, mV, R.bind, R.thn, loop, gT, gsCons, gsNil, gN, Env.set, h1, h2, RS.bind]
theorem lpFd (ha : a ∈ allL) (hd : d ∈ allL) (e : eqL a d = true) : lpF [a, d] (en x y z (some (.tup [a, d])) none none) S = .exc (Bl 1) (en x y z (some (.tup [a, d])) (some (.int 1)) (some d)) S := by
  have h1 := lp_go0 (rest := [d]) (x := x) (y := y) (z := z) (S := S) ha
  have h2 := lp_dup (x := x) (y := y) (z := z) (S := S) ha hd e
  unfold en at h1 h2 ⊢
  simp [lpF, sFor, itE, mV, R.bind, R.thn, loop, gT, gsCons, gsNil, gN, Env.set, h1, h2, RS.bind]
theorem put_bk (b : Bool) (c : Int) (ls : List D) : putA "holes" (.tup ls) (putA "many" (.int c) (putA "is_double" (.bl b) [])) = bk b c ls := by rfl
theorem fields {q p : Option D} (h : S[n]? = some (.ins "Box" [])) : (sSeq (Mx.sFld "Box" "is_double" (mV 0) (mV 1)) (sSeq (Mx.sFld "Box" "many" (mV 0) (mV 2)) (Mx.sFld "Box" "holes" (mV 0) (mV 3)))) (en (some (.ref n)) (some (.bl b)) (some (.int c)) (some (.tup ls)) p q) S
    = .nx (en (some (.ref n)) (some (.bl b)) (some (.int c)) (some (.tup ls)) p q) (S.set n (.ins "Box" (bk b c ls))) := by
  have at_ : ∀ y, (S.set n y)[n]? = some y := fun y => set_at h
  have l1 : ([] : List (Str × D)).length < 1000 := by simp
  have l2 : (putA "is_double" (.bl b) []).length < 1000 := by rw [show putA "is_double" (.bl b) [] = [(("is_double" : Str), D.bl b)] from rfl]; simp
  have l3 : (putA "many" (.int c) (putA "is_double" (.bl b) [])).length < 1000 := by
    rw [show putA "many" (.int c) (putA "is_double" (.bl b) []) = [(("is_double" : Str), D.bl b), ("many", .int c)] from rfl]; simp
  simp [en, sSeq, Mx.sFld, mV, R.bind, R.thn, RS.bind, h, at_, l1, l2, l3, put_bk]
theorem ctv (hc : fn4 [.int c, .int 1, .int 3] S = .ok (.bl true) S) (h : S[n]? = some (.ins "Box" [])) (ok : OkL ls) : fn7 [.ref n, .bl b, .int c, .tup ls] S = .ok .non (S.set n (.ins "Box" (bk b c ls))) := by
  have hl : ls.length ≤ 2 := by
    rcases ok with rfl | ⟨a, _, rfl⟩ | ⟨a, _, e, _, rfl, _⟩ <;> simp
  rw [ct_loop hc hl]
  rcases ok with rfl | ⟨a, ha, rfl⟩ | ⟨a, ha, e, he, rfl, q⟩
  · rw [lpF0]; unfold RS.bind; simp only []; rw [fields h]; rfl
  · rw [lpF1 ha]; unfold RS.bind; simp only []; rw [fields h]; rfl
  · rw [lpF2 ha he q]; unfold RS.bind; simp only []; rw [fields h]; rfl
theorem ctb0 (hc : fn4 [.int c, .int 1, .int 3] S = .ok (.bl true) S) (hl : rest.length ≤ 1) (h : fn6 [d] S = .ok (.bl false) S) : fn7 [.ref n, .bl b, .int c, .tup (d :: rest)] S = .exc (Bl 0) S := by
  rw [ct_loop hc (by simp; omega), lpFb0 h]; rfl
theorem ctb1 (hc : fn4 [.int c, .int 1, .int 3] S = .ok (.bl true) S) (ha : a ∈ allL) (h : fn6 [d] S = .ok (.bl false) S) : fn7 [.ref n, .bl b, .int c, .tup [a, d]] S = .exc (Bl 1) S := by
  rw [ct_loop hc (by simp), lpFb1 ha h]; rfl
theorem ctd (hc : fn4 [.int c, .int 1, .int 3] S = .ok (.bl true) S) (ha : a ∈ allL) (hd : d ∈ allL) (e : eqL a d = true) : fn7 [.ref n, .bl b, .int c, .tup [a, d]] S = .exc (Bl 1) S := by
  rw [ct_loop hc (by simp), lpFd ha hd e]; rfl
end
/-! ### _law_refused -/
section
variable {x y z d : D} {S S' : Sto}
theorem rf_ok (h : fn7 [.ref S.length, x, y, z] (S ++ [.ins "Box" []]) = .ok .non S') : fn16 [x, y, z] S = .ok (.ref S.length) S' := by
  simp [fn16, mkFn, fb16, sSeq, sSet, mC, R.thn, RS.bind, Env.set, sTry, mNew, aCons, aNil, mV, R.bind, h, sRet]
theorem rf_d (h : fn7 [.ref S.length, x, y, z] (S ++ [.ins "Box" []]) = .exc ⟨"BadDoubles", []⟩ S') : fn16 [x, y, z] S = .ok (.str "doubles") S' := by
  simp [fn16, mkFn, fb16, sSeq, sSet, mC, R.thn, RS.bind, Env.set, sTry, mNew, aCons, aNil, mV, R.bind, h, sRet, handle, cx_BadDoubles, mIf, tB, mIsE, is_StoneError, Env.del]
theorem rf_c (h : fn7 [.ref S.length, x, y, z] (S ++ [.ins "Box" []]) = .exc ⟨"BadCopies", []⟩ S') : fn16 [x, y, z] S = .ok (.str "copies") S' := by
  have n1 : ¬ (("BadCopies" : Str) = "BadDoubles") := by decide
  simp [fn16, mkFn, fb16, sSeq, sSet, mC, R.thn, RS.bind, Env.set, sTry, mNew, aCons, aNil, mV, R.bind, h, sRet, handle, cx_BadDoubles, cx_BadCopies, mIf, tB, mIsE, is_StoneError, Env.del, n1]
theorem rf_l (h : fn7 [.ref S.length, x, y, z] (S ++ [.ins "Box" []]) = .exc ⟨"BadLack", [("index", d)]⟩ S') : fn16 [x, y, z] S = .ok (.ref S'.length) (S' ++ [.lst [.str "lack", d]]) := by
  have n1 : ¬ (("BadLack" : Str) = "BadDoubles") := by decide
  have n2 : ¬ (("BadLack" : Str) = "BadCopies") := by decide
  simp [fn16, mkFn, fb16, sSeq, sSet, mC, R.thn, RS.bind, Env.set, sTry, mNew, aCons, aNil, mV, R.bind, h, sRet, handle, cx_BadDoubles, cx_BadCopies, cx_BadLack, mLst, mErr, Env.del, n1, n2, sizeLine_eq]
end
end Mx

set_option maxHeartbeats 200000
namespace Mx
open PySem L2 PySem.Spec PyProof.Rows NdefX
/-- the store grows, the row changes -/
def Kp (r : Nat) (S S' : Sto) : Prop := S.length ≤ S'.length ∧ ∀ n, n < S.length → n ≠ r → S'[n]? = S[n]?
theorem Kp.refl (r : Nat) (S : Sto) : Kp r S S := ⟨Nat.le_refl _, fun _ _ _ => rfl⟩
theorem Kp.trans {r : Nat} {S S1 S2 : Sto} (a : Kp r S S1) (b : Kp r S1 S2) : Kp r S S2 := ⟨Nat.le_trans a.1 b.1, fun n h e => (b.2 n (by have := a.1; omega) e).trans (a.2 n h e)⟩
theorem Kp.add (r : Nat) (S T : Sto) : Kp r S (S ++ T) := ⟨by simp, fun n h _ => List.getElem?_append_left h⟩
theorem Off.kp {r : Nat} {S S' : Sto} (o : Off r S S') : Kp r S S' := ⟨by rw [o.1]; exact Nat.le_refl _, fun n _ e => o.2 n e⟩
theorem Kp.get {r : Nat} {S S' : Sto} (k : Kp r S S') {n : Nat} {x : Ob} (h : S[n]? = some x) (e : n ≠ r) : S'[n]? = some x := by
  rw [k.2 n (List.getElem?_eq_some_iff.mp h).1 e]; exact h
theorem at_len {S : Sto} {x : Ob} {T : Sto} : (S ++ x :: T)[S.length]? = some x := by simp
section
variable {S T : Sto} {b : Bool} {c : Int} {ls : List D} {d x a : D}
theorem f4c (h1 : 1 ≤ c) (h2 : c ≤ 3) (S : Sto) : fn4 [.int c, .int 1, .int 3] S = .ok (.bl true) S := by rw [f4i]; simp [h1, h2]
theorem f41 (S : Sto) : fn4 [.int 1, .int 1, .int 3] S = .ok (.bl true) S := f4c (by decide) (by decide) S
theorem box_at (S : Sto) : (S ++ [Ob.ins "Box" []])[S.length]? = some (.ins "Box" []) := by simp
theorem refV (h1 : 1 ≤ c) (h2 : c ≤ 3) (ok : OkL ls) : fn16 [.bl b, .int c, .tup ls] S = .ok (.ref S.length) (S ++ [.ins "Box" (bk b c ls)]) := by
  have hf := f4c h1 h2 (S ++ [Ob.ins "Box" []])
  have h0 := ctv (b := b) hf (box_at S) ok
  have hs : (S ++ [Ob.ins "Box" []]).set S.length (.ins "Box" (bk b c ls)) = S ++ [.ins "Box" (bk b c ls)] := by
    rw [set_last (by rw [List.length_append]; rfl)]
    rw [List.take_left' rfl]
  rw [hs] at h0
  exact rf_ok h0
def BadD (S : Sto) (d : D) : Prop := ∀ T, fn6 [d] (S ++ T) = .ok (.bl false) (S ++ T)
abbrev lkL (d : D) : Ob := .lst [.str "lack", d]
theorem two (S : Sto) (x y : Ob) : (S ++ [x]) ++ [y] = S ++ [x, y] := by rw [List.append_assoc]; rfl
theorem len1 (S : Sto) (x : Ob) : (S ++ [x]).length = S.length + 1 := by rw [List.length_append]; rfl
theorem rf_l2 {x y z d : D} (h : fn7 [.ref S.length, x, y, z] (S ++ [.ins "Box" []]) = .exc ⟨"BadLack", [("index", d)]⟩ (S ++ [.ins "Box" []])) : fn16 [x, y, z] S = .ok (.ref (S.length + 1)) (S ++ [.ins "Box" [], lkL d]) := by
  have h2 := rf_l h
  rw [two, len1] at h2
  exact h2
theorem refB0 {rest : List D} (hb : BadD S d) (hl : rest.length ≤ 1) : fn16 [.bl true, .int 1, .tup (d :: rest)] S = .ok (.ref (S.length + 1)) (S ++ [.ins "Box" [], lkL (.int 0)]) := by
  have h0 := ctb0 (n := S.length) (b := true) (f41 (S ++ [Ob.ins "Box" []])) hl (hb _)
  exact rf_l2 h0
theorem refB1 (ha : a ∈ allL) (hb : BadD S d) : fn16 [.bl true, .int 1, .tup [a, d]] S = .ok (.ref (S.length + 1)) (S ++ [.ins "Box" [], lkL (.int 1)]) := by
  have h0 := ctb1 (n := S.length) (b := true) (f41 (S ++ [Ob.ins "Box" []])) ha (hb _)
  exact rf_l2 h0
theorem refDu (ha : a ∈ allL) (e : eqL a a = true) : fn16 [.bl true, .int 1, .tup [a, a]] S = .ok (.ref (S.length + 1)) (S ++ [.ins "Box" [], lkL (.int 1)]) := by
  have h0 := ctd (n := S.length) (b := true) (f41 (S ++ [Ob.ins "Box" []])) ha ha e
  exact rf_l2 h0
theorem refT (h : ∀ T, fIsi owns [x, .ty "tuple"] (S ++ T) = .ok (.bl false) (S ++ T)) : fn16 [.bl true, .int 1, x] S = .ok (.ref (S.length + 1)) (S ++ [.ins "Box" [], lkL .non]) := by
  have h0 := ct3 (n := S.length) (b := true) (f41 (S ++ [Ob.ins "Box" []])) (h _)
  exact rf_l2 h0
theorem refT3 (h : 2 < ls.length) : fn16 [.bl true, .int 1, .tup ls] S = .ok (.ref (S.length + 1)) (S ++ [.ins "Box" [], lkL .non]) := by
  have h0 := ct3' (n := S.length) (b := true) (f41 (S ++ [Ob.ins "Box" []])) h
  exact rf_l2 h0
theorem refC (h : ∀ S, fn4 [x, .int 1, .int 3] S = .ok (.bl false) S) : fn16 [.bl true, x, .non] S = .ok (.str "copies") (S ++ [.ins "Box" []]) := by
  have h0 := ct2 (n := S.length) (b := true) (z := .non) (h (S ++ [Ob.ins "Box" []]))
  exact rf_c h0
theorem refD (h : ∀ S, fIsi owns [x, .ty "bool"] S = .ok (.bl false) S) : fn16 [x, .int 0, .non] S = .ok (.str "doubles") (S ++ [.ins "Box" []]) := by
  have h0 := ct1 (n := S.length) (y := .int 0) (z := .non) (h (S ++ [Ob.ins "Box" []]))
  exact rf_d h0
theorem ok6' : PyData.strOk "lack" = true := by decide +kernel
theorem ok7' : PyData.strOk "copies" = true := by decide +kernel
theorem eqv_lst (d : PyData) (h : PyData.eqv d d = true) : PyData.eqv (.list [.str "lack", d]) (.list [.str "lack", d]) = true := by
  simp [PyData.eqv, PyData.eqvAll, h]
theorem ne_lk {i j : Nat} {k : Int} (h1 : S[i]? = some (lkL (.int k))) (h2 : S[j]? = some (lkL (.int k))) : opNe (.ref i) (.ref j) S = .ok (.bl false) S := by
  simp [opNe, pd, h1, h2, mapO, ok6', eqv_lst (.int k) (by simp [eqv_int])]
theorem ne_lkn {i j : Nat} (h1 : S[i]? = some (lkL .non)) (h2 : S[j]? = some (lkL .non)) : opNe (.ref i) (.ref j) S = .ok (.bl false) S := by
  simp [opNe, pd, h1, h2, mapO, ok6', eqv_lst .none (by simp [PyData.eqv])]
theorem ne_str {x : Str} (h : PyData.strOk x = true) : opNe (.str x) (.str x) S = .ok (.bl false) S := by
  simp [opNe, pd, h, eqv_str]
end
/-- an if that is not taken -/
theorem if_no {t : SemT} {a : Stm} {ρ : Env} {S S' : Sto} (h : t ρ S = .ok false S') : sIf t a sNil ρ S = .nx ρ S' := by
  simp [sIf, h, R.thn, sNil]
end Mx

set_option maxHeartbeats 200000
namespace Mx
open PySem L2 PySem.Spec PyProof.Rows NdefX
section
variable {S : Sto} {ρ : Env} {d x a : D} {ls : List D}
/-- ['lack', d] laid, and unlike the one that stands at n + 1 -/
theorem lst_lk (d : D) (e : Sem) (ρ : Env) (S : Sto) (h : e ρ S = .ok d S) : mLst (aCons (mC (.str "lack")) (aCons e aNil)) ρ S = .ok (.ref S.length) (S ++ [lkL d]) := by
  simp [mLst, aCons, aNil, mC, R.bind, h, sizeLine_eq]
theorem three_ (S : Sto) (x y z : Ob) : (S ++ [x, y]) ++ [z] = S ++ [x, y, z] := by rw [List.append_assoc]; rfl
theorem g1 (S : Sto) (x y z : Ob) : (S ++ [x, y, z])[S.length + 1]? = some y := by simp
theorem g2 (S : Sto) (x y z : Ob) : (S ++ [x, y, z])[S.length + 2]? = some z := by simp
theorem l2_ (S : Sto) (x y : Ob) : (S ++ [x, y]).length = S.length + 2 := by simp
/-- a refusal of lacks compared -/
theorem cmpL {m : Sem} {e : Sem} {k : Int} (h : m ρ S = .ok (.ref (S.length + 1)) (S ++ [.ins "Box" [], lkL (.int k)])) (he : e ρ (S ++ [.ins "Box" [], lkL (.int k)]) = .ok (.int k) (S ++ [.ins "Box" [], lkL (.int k)])) :
    (tB (mOp opNe m (mLst (aCons (mC (.str "lack")) (aCons e aNil))))) ρ S = .ok false (S ++ [.ins "Box" [], lkL (.int k), lkL (.int k)]) := by
  have h2 := lst_lk (.int k) e ρ _ he
  rw [three_, l2_] at h2
  have h3 := ne_lk (S := S ++ [.ins "Box" [], lkL (.int k), lkL (.int k)]) (g1 S _ _ _) (g2 S _ _ _)
  simp only [tB, mOp, R.bind, h, h2, h3]
theorem cmpN {m : Sem} (h : m ρ S = .ok (.ref (S.length + 1)) (S ++ [.ins "Box" [], lkL .non])) :
    (tB (mOp opNe m (mLst (aCons (mC (.str "lack")) (aCons (mC .non) aNil))))) ρ S = .ok false (S ++ [.ins "Box" [], lkL .non, lkL .non]) := by
  have h2 := lst_lk .non (mC .non) ρ (S ++ [.ins "Box" [], lkL .non]) rfl
  rw [three_, l2_] at h2
  have h3 := ne_lkn (S := S ++ [.ins "Box" [], lkL .non, lkL .non]) (g1 S _ _ _) (g2 S _ _ _)
  simp only [tB, mOp, R.bind, h, h2, h3]
theorem cmpS {m : Sem} {x : Str} {S' : Sto} (hx : PyData.strOk x = true) (h : m ρ S = .ok (.str x) S') : (tB (mOp opNe m (mC (.str x)))) ρ S = .ok false S' := by
  have h3 := ne_str (S := S') hx
  simp only [tB, mOp, mC, R.bind, h, h3]
theorem ap3 {f : Fn} {e1 e2 e3 : Sem} {x y z : D} {S1 S2 S3 : Sto} (h1 : e1 ρ S = .ok x S1) (h2 : e2 ρ S1 = .ok y S2) (h3 : e3 ρ S2 = .ok z S3) : mApp f (aCons e1 (aCons e2 (aCons e3 aNil))) ρ S = f [x, y, z] S3 := by
  simp only [mApp, aCons, aNil, R.bind, h1, h2, h3]
theorem tup2 {e1 e2 : Sem} {x y : D} (h1 : e1 ρ S = .ok x S) (h2 : e2 ρ S = .ok y S) : mTup (aCons e1 (aCons e2 aNil)) ρ S = .ok (.tup [x, y]) S := by
  simp [mTup, aCons, aNil, R.bind, h1, h2, sizeLine_eq]
theorem vv {i : Nat} {d : D} (h : ρ.sl[i]? = some (some d)) (S : Sto) : mV i ρ S = .ok d S := by simp [mV, h]
/-- refused(True, 1, (bad, None)) -/
theorem t11 (h6 : ρ.sl[6]? = some (some d)) (hb : BadD S d) : (tB (mOp opNe (mApp fn16 (aCons (mC (.bl true)) (aCons (mC (.int 1)) (aCons (mTup (aCons (mV 6) (aCons (mC .non) aNil))) aNil)))) (mLst (aCons (mC (.str "lack")) (aCons (mC (.int 0)) aNil))))) ρ S
    = .ok false (S ++ [.ins "Box" [], lkL (.int 0), lkL (.int 0)]) := by
  refine cmpL (k := 0) ?_ rfl
  rw [ap3 (x := .bl true) (y := .int 1) rfl rfl (tup2 (vv h6 S) rfl)]
  exact refB0 hb (by simp)
/-- refused(True, 1, lacks[:1] * 2), where there are lacks -/
theorem eqL_refl {d : D} (h : d ∈ allL) : eqL d d = true := by
  simp only [allL, List.mem_cons, List.not_mem_nil, or_false] at h
  rcases h with rfl | rfl | rfl | rfl | rfl | rfl | rfl | rfl | rfl | rfl | rfl | rfl | rfl | rfl | rfl | rfl | rfl | rfl | rfl | rfl | rfl <;>
    simp [eqL, pdL, lk, pdI, PyData.eqv, PyData.eqvAll]
/-- refused(True, 1, three) -/
theorem t14 (h7 : ρ.sl[7]? = some (some x)) (h : fn16 [.bl true, .int 1, x] S = .ok (.ref (S.length + 1)) (S ++ [.ins "Box" [], lkL .non])) : (tB (mOp opNe (mApp fn16 (aCons (mC (.bl true)) (aCons (mC (.int 1)) (aCons (mV 7) aNil)))) (mLst (aCons (mC (.str "lack")) (aCons (mC .non) aNil))))) ρ S
    = .ok false (S ++ [.ins "Box" [], lkL .non, lkL .non]) := by
  refine cmpN ?_
  rw [ap3 (x := .bl true) (y := .int 1) rfl rfl (vv h7 S)]
  exact h
end
end Mx

set_option maxHeartbeats 200000
namespace Mx
open PySem L2 PySem.Spec PyProof.Rows NdefX
section
variable {S S1 : Sto} {ρ : Env} {d x a : D} {ls xs : List D} {q r k : Nat} {m : Int}
theorem pickL {L : Sem} (hL : L ρ S = .ok (.ref k) S1) (hk : S1[k]? = some (.lst xs)) (hm : (xs.length : Int) = m) (kr : k ≠ r) (h1 : ρ.sl[1]? = some (some (.ref r))) (h : Rok S1 q r) (m0 : 0 < m) (m1 : m < 2 ^ 60) :
    ∃ d ∈ xs, ∃ S', (mOp opSub_ L (mApp fn13 (aCons (mV 1) (aCons (mC (.int m)) aNil)))) ρ S = .ok d S' ∧ Rok S' q r ∧ Off r S1 S' := by
  obtain ⟨v, S', e, a1, b1, h2, o⟩ := pickP (m := m) h m0 m1
  have hv : v.toNat < xs.length := by omega
  refine ⟨xs[v.toNat], List.getElem_mem hv, S', ?_, h2, o⟩
  have hk2 : S'[k]? = some (.lst xs) := by rw [o.2 k kr]; exact hk
  have hv1 : v < (xs.length : Int) := by omega
  have hap : (mApp fn13 (aCons (mV 1) (aCons (mC (.int m)) aNil))) ρ S1 = .ok (.int v) S' := by
    simp only [mApp, aCons, aNil, R.bind, vv h1, mC]
    exact e
  have hs : opSub_ (.ref k) (.int v) S' = .ok xs[v.toNat] S' := by
    simp [opSub_, hk2, atI, ixN, a1, hv1, hv]
  simp only [mOp, R.bind, hL, hap, hs]
def ThreeOk (S : Sto) (x : D) : Prop := (∀ T, fIsi owns [x, .ty "tuple"] (S ++ T) = .ok (.bl false) (S ++ T)) ∨ ∃ ls, x = .tup ls ∧ 2 < ls.length
theorem ThreeOk.ref (h : ThreeOk S x) : fn16 [.bl true, .int 1, x] S = .ok (.ref (S.length + 1)) (S ++ [.ins "Box" [], lkL .non]) := by
  rcases h with h | ⟨ls, rfl, h⟩
  · exact refT h
  · exact refT3 h
/-- the odd numbers of copies -/
theorem t15 (h1 : ρ.sl[1]? = some (some (.ref r))) (h : Rok S q r) : ∃ S', (tB (mOp opNe (mApp fn16 (aCons (mC (.bl true)) (aCons (mOp opSub_ (mLst (aCons (mC (.int 0)) (aCons (mC (.int 4)) (aCons (mC (.bl true)) (aCons (mC .non) (aCons (mC (.str "1")) aNil)))))) (mApp fn13 (aCons (mV 1) (aCons (mC (.int 5)) aNil)))) (aCons (mC .non) aNil)))) (mC (.str "copies")))) ρ S = .ok false S' ∧ Rok S' q r ∧ Kp r S S' := by
  have hL : (mLst (aCons (mC (.int 0)) (aCons (mC (.int 4)) (aCons (mC (.bl true)) (aCons (mC .non) (aCons (mC (.str "1")) aNil)))))) ρ S = .ok (.ref S.length) (S ++ [.lst [.int 0, .int 4, .bl true, .non, .str "1"]]) := by
    simp [mLst, aCons, aNil, mC, R.bind, sizeLine_eq]
  have lt := h.lt
  obtain ⟨d, hd, S2, e, h2, o⟩ := pickL (xs := [.int 0, .int 4, .bl true, .non, .str "1"]) (m := 5) hL (by simp) rfl (by omega) h1 (h.add _) (by decide) (by decide)
  have hf : ∀ S, fn4 [d, .int 1, .int 3] S = .ok (.bl false) S := by
    intro S
    simp only [List.mem_cons, List.not_mem_nil, or_false] at hd
    rcases hd with rfl | rfl | rfl | rfl | rfl
    · rw [f4i]; rfl
    · rw [f4i]; rfl
    · exact f4x 1 3 S (f3b true S)
    · exact f4x 1 3 S (f3n S)
    · exact f4x 1 3 S (f3s "1" S)
  have hr := refC (S := S2) hf
  refine ⟨S2 ++ [.ins "Box" []], cmpS ok7' ?_, h2.add _, (Kp.add r S _).trans (o.kp.trans (Kp.add r S2 _))⟩
  rw [ap3 (x := .bl true) (S1 := S) rfl e (rfl : mC .non ρ S2 = .ok .non S2)]
  exact hr
theorem ok8' : PyData.strOk "doubles" = true := ok3'
theorem t16 (h1 : ρ.sl[1]? = some (some (.ref r))) (h : Rok S q r) : ∃ S', (tB (mOp opNe (mApp fn16 (aCons (mOp opSub_ (mLst (aCons (mC (.int 0)) (aCons (mC (.int 1)) (aCons (mC .non) (aCons (mC (.str "yes")) aNil))))) (mApp fn13 (aCons (mV 1) (aCons (mC (.int 4)) aNil)))) (aCons (mC (.int 0)) (aCons (mC .non) aNil)))) (mC (.str "doubles")))) ρ S = .ok false S' ∧ Rok S' q r ∧ Kp r S S' := by
  have hL : (mLst (aCons (mC (.int 0)) (aCons (mC (.int 1)) (aCons (mC .non) (aCons (mC (.str "yes")) aNil))))) ρ S = .ok (.ref S.length) (S ++ [.lst [.int 0, .int 1, .non, .str "yes"]]) := by
    simp [mLst, aCons, aNil, mC, R.bind, sizeLine_eq]
  have lt := h.lt
  obtain ⟨d, hd, S2, e, h2, o⟩ := pickL (xs := [.int 0, .int 1, .non, .str "yes"]) (m := 4) hL (by simp) rfl (by omega) h1 (h.add _) (by decide) (by decide)
  have hf : ∀ S, fIsi owns [d, .ty "bool"] S = .ok (.bl false) S := by
    intro S
    simp only [List.mem_cons, List.not_mem_nil, or_false] at hd
    rcases hd with rfl | rfl | rfl | rfl <;> simp [fIsi, tyOf, isB]
  have hr := refD (S := S2) hf
  refine ⟨S2 ++ [.ins "Box" []], cmpS ok8' ?_, h2.add _, (Kp.add r S _).trans (o.kp.trans (Kp.add r S2 _))⟩
  rw [ap3 (S1 := S2) (S2 := S2) (S3 := S2) e (rfl : mC (.int 0) ρ S2 = .ok (.int 0) S2) (rfl : mC .non ρ S2 = .ok .non S2)]
  exact hr
/-- what is no tuple of lacks -/
theorem t13 (h1 : ρ.sl[1]? = some (some (.ref r))) (h : Rok S q r) : ∃ x S', (mOp opSub_ (mLst (aCons (mC .non) (aCons (mLst aNil) (aCons (mC (.str "pip")) (aCons (mTup (aCons (mTup (aCons (mC (.str "pip")) (aCons (mC (.int 0)) aNil))) (aCons (mTup (aCons (mC (.str "pip")) (aCons (mC (.int 1)) aNil))) (aCons (mTup (aCons (mC (.str "pip")) (aCons (mC (.int 2)) aNil))) aNil)))) (aCons mDic0 aNil)))))) (mApp fn13 (aCons (mV 1) (aCons (mC (.int 5)) aNil)))) ρ S = .ok x S' ∧ ThreeOk S' x ∧ Rok S' q r ∧ Kp r S S' := by
  have hL : (mLst (aCons (mC .non) (aCons (mLst aNil) (aCons (mC (.str "pip")) (aCons (mTup (aCons (mTup (aCons (mC (.str "pip")) (aCons (mC (.int 0)) aNil))) (aCons (mTup (aCons (mC (.str "pip")) (aCons (mC (.int 1)) aNil))) (aCons (mTup (aCons (mC (.str "pip")) (aCons (mC (.int 2)) aNil))) aNil)))) (aCons mDic0 aNil)))))) ρ S
      = .ok (.ref (S.length + 2)) (S ++ [.lst [], .dic false [], .lst [.non, .ref S.length, .str "pip", .tup [lk "pip" [0], lk "pip" [1], lk "pip" [2]], .ref (S.length + 1)]]) := by
    simp [mLst, aCons, aNil, mC, mTup, R.bind, sizeLine_eq, mDic0, lk]
  have lt := h.lt
  obtain ⟨d, hd, S2, e, h2, o⟩ := pickL (xs := [.non, .ref S.length, .str "pip", .tup [lk "pip" [0], lk "pip" [1], lk "pip" [2]], .ref (S.length + 1)]) (m := 5) hL (by simp) rfl (by omega) h1 (h.add _) (by decide) (by decide)
  refine ⟨d, S2, e, ?_, h2, (Kp.add r S _).trans o.kp⟩
  have g0 : S2[S.length]? = some (.lst []) := by rw [o.2 _ (by omega)]; simp
  have g1 : S2[S.length + 1]? = some (.dic false []) := by rw [o.2 _ (by omega)]; simp
  have c0 : ∀ T, (S2 ++ T)[S.length]? = some (.lst []) := fun T => by rw [List.getElem?_append_left (List.getElem?_eq_some_iff.mp g0).1]; exact g0
  have c1 : ∀ T, (S2 ++ T)[S.length + 1]? = some (.dic false []) := fun T => by rw [List.getElem?_append_left (List.getElem?_eq_some_iff.mp g1).1]; exact g1
  simp only [List.mem_cons, List.not_mem_nil, or_false] at hd
  rcases hd with rfl | rfl | rfl | rfl | rfl
  · exact .inl fun T => by simp [fIsi, tyOf, isB]
  · exact .inl fun T => by simp [fIsi, tyOf, isB, c0]
  · exact .inl fun T => by simp [fIsi, tyOf, isB]
  · exact .inr ⟨_, rfl, by simp⟩
  · exact .inl fun T => by simp [fIsi, tyOf, isB, c1]
end
end Mx

set_option maxHeartbeats 400000
namespace Mx
open PySem L2 PySem.Spec PyProof.Rows NdefX
def oddA : List D := [.non, .tup [], .str "pip", .tup [.str "pip"], .tup [.str "pip", .int 4], .tup [.str "pip", .int (-1)], .tup [.str "pip", .bl true], .tup [.str "sum", .int 2], .tup [.str "sum", .int 1, .int 0]]
def oddB : List D := [.tup [.str "sum", .int 5, .int 0], .tup [.str "sum", .int 3, .int 3], .tup [.str "sum", .int 2, .int (-1)], .tup [.str "apart", .int 0], .tup [.str "apart", .int 4], .tup [.str "doubles", .int 5]]
def oddC (n : Nat) : List D := [.ref n, .tup [.str "pip", .int 1, .int 2], .tup [.str "some", .int 1], .tup [.int 1, .int 2], .tup [.str "sum", .int 2, .bl true]]
section
variable {S : Sto} {ρ : Env} {d x a : D} {ls xs : List D} {q r k n : Nat} {m : Int}
theorem badA (h : d ∈ oddA) (S : Sto) : fn6 [d] S = .ok (.bl false) S := by
  simp only [oddA, List.mem_cons, List.not_mem_nil, or_false] at h
  rcases h with rfl | rfl | rfl | rfl | rfl | rfl | rfl | rfl | rfl
  · exact f6n (by simp [fIsi, tyOf, isB])
  · exact f6e
  · exact f6n (by simp [fIsi, tyOf, isB])
  · exact f6b2 (xs := []) ok1 (by decide) tl1 (by simp)
  · exact f6b1 ok1 (by decide) tl1 (by rw [f4i]; rfl)
  · exact f6b1 ok1 (by decide) tl1 (by rw [f4i]; rfl)
  · exact f6b1 ok1 (by decide) tl1 (f4x _ _ S (f3b true S))
  · exact f6s1 (xs := [.int 2]) (by simp)
  · exact f6s2 (by rw [f4i]; rfl)
theorem badB (h : d ∈ oddB) (S : Sto) : fn6 [d] S = .ok (.bl false) S := by
  simp only [oddB, List.mem_cons, List.not_mem_nil, or_false] at h
  rcases h with rfl | rfl | rfl | rfl | rfl | rfl
  · exact f6s2 (by rw [f4i]; rfl)
  · exact f6s3 (by rw [f4i]; rfl) (by rw [f4i]; rfl)
  · exact f6s3 (by rw [f4i]; rfl) (by rw [f4i]; rfl)
  · exact f6b1 ok2 (by decide) tl2 (by rw [f4i]; rfl)
  · exact f6b1 ok2 (by decide) tl2 (by rw [f4i]; rfl)
  · exact f6b1 ok3' (by decide) tl3 (by rw [f4i]; rfl)
theorem badC (h : d ∈ oddC n) (hn : S[n]? = some (.lst xs)) : fn6 [d] S = .ok (.bl false) S := by
  simp only [oddC, List.mem_cons, List.not_mem_nil, or_false] at h
  rcases h with rfl | rfl | rfl | rfl | rfl
  · exact f6n (by simp [fIsi, tyOf, isB, hn])
  · exact f6b2 (xs := [.int 1, .int 2]) ok1 (by decide) tl1 (by simp)
  · exact f6o1 ok5' (by decide) (by decide)
  · exact f6o2
  · exact f6s3 (by rw [f4i]; rfl) (f4x _ _ S (f3b true S))
theorem badAll (h : d ∈ oddA ++ oddB ++ oddC n) (hn : S[n]? = some (.lst xs)) : BadD S d := by
  intro T
  have hn' : (S ++ T)[n]? = some (.lst xs) := by rw [List.getElem?_append_left (List.getElem?_eq_some_iff.mp hn).1]; exact hn
  rcases List.mem_append.mp h with h | h
  · rcases List.mem_append.mp h with h | h
    · exact badA h _
    · exact badB h _
  · exact badC h hn'
/-- refused(True, 1, lacks + (bad,)), where there is at most one lack -/
theorem t10 (h9 : ρ.sl[9]? = some (some (.tup ls))) (h6 : ρ.sl[6]? = some (some d)) (ok : OkL ls) (hb : BadD S d) : ∃ S', (Mx.tAnd (tB (mOp opLt (mApp fLen (aCons (mV 9) aNil)) (mC (.int 2)))) (tB (mOp opNe (mApp fn16 (aCons (mC (.bl true)) (aCons (mC (.int 1)) (aCons (mOp opAdd (mV 9) (mTup (aCons (mV 6) aNil))) aNil)))) (mLst (aCons (mC (.str "lack")) (aCons (mApp fLen (aCons (mV 9) aNil)) aNil)))))) ρ S = .ok false S' ∧ ∃ T, S' = S ++ T := by
  have hlen : ∀ S, (mApp fLen (aCons (mV 9) aNil)) ρ S = .ok (.int ls.length) S := fun S => by
    simp only [mApp, aCons, aNil, R.bind, vv h9]; rfl
  have hadd : ls.length ≤ 2 → (mOp opAdd (mV 9) (mTup (aCons (mV 6) aNil))) ρ S = .ok (.tup (ls ++ [d])) S := fun hl => by
    have : ls.length + 1 ≤ 16777216 := by omega
    simp [mOp, R.bind, vv h9, vv h6, mTup, aCons, aNil, sizeLine_eq, opAdd, this]
  by_cases h2 : (ls.length : Int) < 2
  · have key : fn16 [.bl true, .int 1, .tup (ls ++ [d])] S = .ok (.ref (S.length + 1)) (S ++ [.ins "Box" [], lkL (.int ls.length)]) := by
      rcases ok with rfl | ⟨a, ha, rfl⟩ | ⟨a, ha, e, he, rfl, q⟩
      · exact refB0 hb (by simp)
      · exact refB1 ha hb
      · exact absurd h2 (by simp)
    have hc := cmpL (ρ := ρ) (S := S) (m := mApp fn16 (aCons (mC (.bl true)) (aCons (mC (.int 1)) (aCons (mOp opAdd (mV 9) (mTup (aCons (mV 6) aNil))) aNil)))) (e := mApp fLen (aCons (mV 9) aNil)) (k := ls.length) (by
      rw [ap3 (x := .bl true) (y := .int 1) rfl rfl (hadd (by omega))]
      exact key) (hlen _)
    refine ⟨S ++ [.ins "Box" [], lkL (.int ls.length), lkL (.int ls.length)], ?_, _, rfl⟩
    have ht : (tB (mOp opLt (mApp fLen (aCons (mV 9) aNil)) (mC (.int 2)))) ρ S = .ok true S := by
      simp [tB, mOp, R.bind, hlen, mC, opII, h2]
    unfold Mx.tAnd
    rw [ht]
    exact hc
  · refine ⟨S, ?_, [], by simp⟩
    have ht : (tB (mOp opLt (mApp fLen (aCons (mV 9) aNil)) (mC (.int 2)))) ρ S = .ok false S := by
      simp [tB, mOp, R.bind, hlen, mC, opII, h2]
    unfold Mx.tAnd
    rw [ht]
    rfl
end
end Mx

set_option maxHeartbeats 400000
namespace Mx
open PySem L2 PySem.Spec PyProof.Rows NdefX
section
variable {S : Sto} {ρ : Env} {d x a : D} {ls xs : List D} {q r k n : Nat} {m : Int}
theorem ne_tup0 (h : ∀ d ∈ ls, d ∈ allL) (S : Sto) : opNe (.tup ls) (.tup []) S = .ok (.bl (!ls.isEmpty)) S := by
  unfold opNe
  rw [pd_Ls h S 56, pd_Ls (ds := []) (by simp) S 56]
  cases ls <;> simp [PyData.eqv, PyData.eqvAll]
theorem t12 (h9 : ρ.sl[9]? = some (some (.tup ls))) (ok : OkL ls) : ∃ S', (Mx.tAnd (tB (mOp opNe (mV 9) (mTup aNil))) (tB (mOp opNe (mApp fn16 (aCons (mC (.bl true)) (aCons (mC (.int 1)) (aCons (mOp opMul (mSlice (mV 9) oNone (oSome (mC (.int 1)))) (mC (.int 2))) aNil)))) (mLst (aCons (mC (.str "lack")) (aCons (mC (.int 1)) aNil)))))) ρ S = .ok false S' ∧ ∃ T, S' = S ++ T := by
  have ht : (tB (mOp opNe (mV 9) (mTup aNil))) ρ S = .ok (!ls.isEmpty) S := by
    simp [tB, mOp, R.bind, vv h9, mTup, aNil, sizeLine_eq, ne_tup0 ok.all]
  have pos : ∀ a rest, ls = a :: rest → a ∈ allL → ∃ S', (Mx.tAnd (tB (mOp opNe (mV 9) (mTup aNil))) (tB (mOp opNe (mApp fn16 (aCons (mC (.bl true)) (aCons (mC (.int 1)) (aCons (mOp opMul (mSlice (mV 9) oNone (oSome (mC (.int 1)))) (mC (.int 2))) aNil)))) (mLst (aCons (mC (.str "lack")) (aCons (mC (.int 1)) aNil)))))) ρ S = .ok false S' ∧ ∃ T, S' = S ++ T := by
    intro a rest e ha
    subst e
    have hm : (mOp opMul (mSlice (mV 9) oNone (oSome (mC (.int 1)))) (mC (.int 2))) ρ S = .ok (.tup [a, a]) S := by
      have hs : slD (.tup (a :: rest)) none (some 1) S = .ok (.tup [a]) S := by
        simp [slD, cutD, HT.sIx]
      simp [mOp, mSlice, oNone, oSome, mC, R.bind, vv h9, hs, opMul]
    have hc := cmpL (ρ := ρ) (S := S) (m := mApp fn16 (aCons (mC (.bl true)) (aCons (mC (.int 1)) (aCons (mOp opMul (mSlice (mV 9) oNone (oSome (mC (.int 1)))) (mC (.int 2))) aNil)))) (e := mC (.int 1)) (k := 1) (by
      rw [ap3 (x := .bl true) (y := .int 1) rfl rfl hm]
      exact refDu ha (eqL_refl ha)) rfl
    refine ⟨S ++ [.ins "Box" [], lkL (.int 1), lkL (.int 1)], ?_, _, rfl⟩
    unfold Mx.tAnd
    rw [ht]
    exact hc
  rcases ok with e | ⟨a, ha, e⟩ | ⟨a, ha, b, hb, e, _⟩
  · refine ⟨S, ?_, [], by simp⟩
    subst e
    unfold Mx.tAnd
    rw [ht]
    rfl
  · exact pos a [] e ha
  · exact pos a [b] e ha
/-- the odd list and what is drawn of it -/
def E12 (v0 : Option D) (r bf : Nat) (v3 v4 v5 v6 v7 v8 v9 v10 v11 : Option D) : Env := ⟨[v0, some (.ref r), some (.ref bf), v3, v4, v5, v6, v7, v8, v9, v10, v11], none⟩
def lA : Sem := mLst (aCons (mC .non) (aCons (mTup aNil) (aCons (mC (.str "pip")) (aCons (mTup (aCons (mC (.str "pip")) aNil)) (aCons (mTup (aCons (mC (.str "pip")) (aCons (mC (.int 4)) aNil))) (aCons (mTup (aCons (mC (.str "pip")) (aCons (mUn unNeg (mC (.int 1))) aNil))) (aCons (mTup (aCons (mC (.str "pip")) (aCons (mC (.bl true)) aNil))) (aCons (mTup (aCons (mC (.str "sum")) (aCons (mC (.int 2)) aNil))) (aCons (mTup (aCons (mC (.str "sum")) (aCons (mC (.int 1)) (aCons (mC (.int 0)) aNil)))) aNil)))))))))
def lB : Sem := mLst (aCons (mTup (aCons (mC (.str "sum")) (aCons (mC (.int 5)) (aCons (mC (.int 0)) aNil)))) (aCons (mTup (aCons (mC (.str "sum")) (aCons (mC (.int 3)) (aCons (mC (.int 3)) aNil)))) (aCons (mTup (aCons (mC (.str "sum")) (aCons (mC (.int 2)) (aCons (mUn unNeg (mC (.int 1))) aNil)))) (aCons (mTup (aCons (mC (.str "apart")) (aCons (mC (.int 0)) aNil))) (aCons (mTup (aCons (mC (.str "apart")) (aCons (mC (.int 4)) aNil))) (aCons (mTup (aCons (mC (.str "doubles")) (aCons (mC (.int 5)) aNil))) aNil))))))
def lC : Sem := mLst (aCons (mLst (aCons (mC (.str "pip")) (aCons (mC (.int 1)) aNil))) (aCons (mTup (aCons (mC (.str "pip")) (aCons (mC (.int 1)) (aCons (mC (.int 2)) aNil)))) (aCons (mTup (aCons (mC (.str "some")) (aCons (mC (.int 1)) aNil))) (aCons (mTup (aCons (mC (.int 1)) (aCons (mC (.int 2)) aNil))) (aCons (mTup (aCons (mC (.str "sum")) (aCons (mC (.int 2)) (aCons (mC (.bl true)) aNil)))) aNil)))))
theorem lA_ (ρ : Env) (S : Sto) : lA ρ S = .ok (.ref S.length) (S ++ [.lst oddA]) := by
  simp [lA, mLst, aCons, aNil, mC, mTup, mUn, unNeg, R.bind, sizeLine_eq, oddA]
theorem lB_ (ρ : Env) (S : Sto) : lB ρ S = .ok (.ref S.length) (S ++ [.lst oddB]) := by
  simp [lB, mLst, aCons, aNil, mC, mTup, mUn, unNeg, R.bind, sizeLine_eq, oddB]
theorem lC_ (ρ : Env) (S : Sto) : lC ρ S = .ok (.ref (S.length + 1)) (S ++ [.lst [.str "pip", .int 1], .lst (oddC S.length)]) := by
  simp [lC, mLst, aCons, aNil, mC, mTup, mUn, unNeg, R.bind, sizeLine_eq, oddC]
theorem add_ {i j : Nat} {xs ys : List D} (h1 : S[i]? = some (.lst xs)) (h2 : S[j]? = some (.lst ys)) (hl : xs.length + ys.length ≤ 1000) : opAdd (.ref i) (.ref j) S = .ok (.ref S.length) (S ++ [.lst (xs ++ ys)]) := by
  have : xs.length + ys.length ≤ 16777216 := by omega
  simp [opAdd, h1, h2, sizeLine_eq, this]
end
end Mx

set_option maxHeartbeats 400000
namespace Mx
open PySem L2 PySem.Spec PyProof.Rows NdefX
section
variable {S : Sto} {ρ : Env} {d x a : D} {ls xs : List D} {q r k n bf : Nat} {m : Int} {v0 v3 v4 v5 v6 v7 v8 v9 v10 v11 : Option D}
theorem tupT {e1 e2 : Sem} {x y : D} {S1 S2 : Sto} (h1 : e1 ρ S = .ok x S1) (h2 : e2 ρ S1 = .ok y S2) : mTup (aCons e1 (aCons e2 aNil)) ρ S = .ok (.tup [x, y]) S2 := by
  simp [mTup, aCons, aNil, R.bind, h1, h2, sizeLine_eq]
theorem odd_ (h : Rok S q r) : ∃ d w S', (∀ g : Stm, sSeq (sSet 5 lA) (sSeq (sSet 5 (mOp opAdd (mV 5) lB)) (sSeq (sSet 5 (mOp opAdd (mV 5) lC)) (sSeq (sSet 6 (mOp opSub_ (mV 5) (mApp fn13 (aCons (mV 1) (aCons (mC (.int 20)) aNil))))) g))) (E12 v0 r bf v3 v4 v5 v6 v7 v8 v9 v10 v11) S
      = g (E12 v0 r bf v3 v4 w (some d) v7 v8 v9 v10 v11) S') ∧ BadD S' d ∧ Rok S' q r ∧ Kp r S S' := by
  have lt := h.lt
  have e1 : sSet 5 lA (E12 v0 r bf v3 v4 v5 v6 v7 v8 v9 v10 v11) S = .nx (E12 v0 r bf v3 v4 (some (.ref S.length)) v6 v7 v8 v9 v10 v11) (S ++ [.lst oddA]) := by
    unfold sSet; rw [lA_]; rfl
  have e2 : sSet 5 (mOp opAdd (mV 5) lB) (E12 v0 r bf v3 v4 (some (.ref S.length)) v6 v7 v8 v9 v10 v11) (S ++ [.lst oddA]) = .nx (E12 v0 r bf v3 v4 (some (.ref (S.length + 2))) v6 v7 v8 v9 v10 v11) (S ++ [.lst oddA, .lst oddB, .lst (oddA ++ oddB)]) := by
    have hv : mV 5 (E12 v0 r bf v3 v4 (some (.ref S.length)) v6 v7 v8 v9 v10 v11) (S ++ [.lst oddA]) = .ok (.ref S.length) (S ++ [.lst oddA]) := rfl
    have ha := add_ (S := (S ++ [.lst oddA]) ++ [.lst oddB]) (i := S.length) (j := (S ++ [Ob.lst oddA]).length) (xs := oddA) (ys := oddB) (by simp) (by simp) (by decide)
    unfold sSet mOp
    rw [hv]
    simp only [R.bind]
    rw [lB_]
    simp only []
    rw [ha]
    simp [R.thn, Env.set, E12]
  have e3 : sSet 5 (mOp opAdd (mV 5) lC) (E12 v0 r bf v3 v4 (some (.ref (S.length + 2))) v6 v7 v8 v9 v10 v11) (S ++ [.lst oddA, .lst oddB, .lst (oddA ++ oddB)]) = .nx (E12 v0 r bf v3 v4 (some (.ref (S.length + 5))) v6 v7 v8 v9 v10 v11) (S ++ [.lst oddA, .lst oddB, .lst (oddA ++ oddB), .lst [.str "pip", .int 1], .lst (oddC (S.length + 3)), .lst (oddA ++ oddB ++ oddC (S.length + 3))]) := by
    have hv : mV 5 (E12 v0 r bf v3 v4 (some (.ref (S.length + 2))) v6 v7 v8 v9 v10 v11) (S ++ [.lst oddA, .lst oddB, .lst (oddA ++ oddB)]) = .ok (.ref (S.length + 2)) (S ++ [.lst oddA, .lst oddB, .lst (oddA ++ oddB)]) := rfl
    have hl : (S ++ [Ob.lst oddA, .lst oddB, .lst (oddA ++ oddB)]).length = S.length + 3 := by simp
    have hC := lC_ (E12 v0 r bf v3 v4 (some (.ref (S.length + 2))) v6 v7 v8 v9 v10 v11) (S ++ [.lst oddA, .lst oddB, .lst (oddA ++ oddB)])
    rw [hl] at hC
    have hC : lC (E12 v0 r bf v3 v4 (some (.ref (S.length + 2))) v6 v7 v8 v9 v10 v11) (S ++ [.lst oddA, .lst oddB, .lst (oddA ++ oddB)]) = .ok (.ref (S.length + 4)) ((S ++ [.lst oddA, .lst oddB, .lst (oddA ++ oddB)]) ++ [.lst [.str "pip", .int 1], .lst (oddC (S.length + 3))]) := hC
    have ha := add_ (S := (S ++ [Ob.lst oddA, .lst oddB, .lst (oddA ++ oddB)]) ++ [.lst [.str "pip", .int 1], .lst (oddC (S.length + 3))]) (i := S.length + 2) (j := S.length + 4) (xs := oddA ++ oddB) (ys := oddC (S.length + 3)) (by simp) (by simp) (by simp [oddA, oddB, oddC])
    unfold sSet mOp
    rw [hv]
    simp only [R.bind]
    rw [hC]
    simp only []
    rw [ha]
    simp [R.thn, Env.set, E12]
  have hk : (S ++ [Ob.lst oddA, .lst oddB, .lst (oddA ++ oddB), .lst [.str "pip", .int 1], .lst (oddC (S.length + 3)), .lst (oddA ++ oddB ++ oddC (S.length + 3))])[S.length + 5]? = some (.lst (oddA ++ oddB ++ oddC (S.length + 3))) := by simp
  have h3 : (S ++ [Ob.lst oddA, .lst oddB, .lst (oddA ++ oddB), .lst [.str "pip", .int 1], .lst (oddC (S.length + 3)), .lst (oddA ++ oddB ++ oddC (S.length + 3))])[S.length + 3]? = some (.lst [.str "pip", .int 1]) := by simp
  obtain ⟨d, hd, S2, e4, h2, o⟩ := pickL (ρ := E12 v0 r bf v3 v4 (some (.ref (S.length + 5))) v6 v7 v8 v9 v10 v11) (L := mV 5) (m := 20) rfl hk (by simp [oddA, oddB, oddC]) (by omega) rfl (h.add _) (by decide) (by decide)
  refine ⟨d, some (.ref (S.length + 5)), S2, fun g => ?_, badAll hd (by rw [o.2 _ (by omega)]; exact h3), h2, (Kp.add r S _).trans o.kp⟩
  rw [seq_nx e1, seq_nx e2, seq_nx e3, seq_nx (ρ' := E12 v0 r bf v3 v4 (some (.ref (S.length + 5))) (some d) v7 v8 v9 v10 v11) (S' := S2)]
  unfold sSet
  rw [e4]
  rfl
/-- the box that is drawn and made -/
theorem made_ (h : Rok S q r) : ∃ b c ls S', (∀ g : Stm, sSeq (sSet 4 (mApp fn15 (aCons (mV 1) aNil))) (sSeq (Mx.sAsg (gT 2 (gsCons (gN 8) (gsCons (gN 9) gsNil))) (mTup (aCons (mApp fn16 (aCons (mOp opSub_ (mV 4) (mC (.str "doubles"))) (aCons (mOp opSub_ (mV 4) (mC (.str "copies"))) (aCons (mOp opSub_ (mV 4) (mC (.str "lacks"))) aNil)))) (aCons (mOp opSub_ (mV 4) (mC (.str "lacks"))) aNil)))) g) (E12 v0 r bf v3 v4 v5 v6 v7 v8 v9 v10 v11) S
      = g (E12 v0 r bf v3 (some (.ref S.length)) v5 v6 v7 (some (.ref (S.length + 1))) (some (.tup ls)) v10 v11) (S' ++ [.dic false (boxK b c ls), .ins "Box" (bk b c ls)])) ∧ Rok S' q r ∧ Off r S S' ∧ 1 ≤ c ∧ c ≤ 3 ∧ OkL ls := by
  obtain ⟨b, c, ls, S', e, h2, o, c1, c2, ok⟩ := drawnP h
  refine ⟨b, c, ls, S', fun g => ?_, h2, o, c1, c2, ok⟩
  have hl : S'.length = S.length := o.1
  have e1 : sSet 4 (mApp fn15 (aCons (mV 1) aNil)) (E12 v0 r bf v3 v4 v5 v6 v7 v8 v9 v10 v11) S = .nx (E12 v0 r bf v3 (some (.ref S.length)) v5 v6 v7 v8 v9 v10 v11) (S' ++ [.dic false (boxK b c ls)]) := by
    have hv : mV 1 (E12 v0 r bf v3 v4 v5 v6 v7 v8 v9 v10 v11) S = .ok (.ref r) S := rfl
    simp only [sSet, mApp, aCons, aNil, R.bind, hv, e, R.thn]
    rfl
  have gk : (S' ++ [Ob.dic false (boxK b c ls)])[S.length]? = some (.dic false (boxK b c ls)) := by rw [← hl]; simp
  have k1 : getK (boxK b c ls) (.inr "doubles") = some (.bl b) := rfl
  have k2 : getK (boxK b c ls) (.inr "copies") = some (.int c) := rfl
  have k3 : getK (boxK b c ls) (.inr "lacks") = some (.tup ls) := rfl
  have sub : ∀ (T : Sto) (s : Str) (d : D), (S' ++ Ob.dic false (boxK b c ls) :: T)[S.length]? = some (.dic false (boxK b c ls)) → getK (boxK b c ls) (.inr s) = some d → (mOp opSub_ (mV 4) (mC (.str s))) (E12 v0 r bf v3 (some (.ref S.length)) v5 v6 v7 v8 v9 v10 v11) (S' ++ Ob.dic false (boxK b c ls) :: T) = .ok d (S' ++ Ob.dic false (boxK b c ls) :: T) := by
    intro T s d g1 g2
    have hv : mV 4 (E12 v0 r bf v3 (some (.ref S.length)) v5 v6 v7 v8 v9 v10 v11) (S' ++ Ob.dic false (boxK b c ls) :: T) = .ok (.ref S.length) (S' ++ Ob.dic false (boxK b c ls) :: T) := rfl
    simp only [mOp, R.bind, hv, mC, opSub_, g1, keyD, g2]
  have at2 : ∀ T, (S' ++ Ob.dic false (boxK b c ls) :: T)[S.length]? = some (.dic false (boxK b c ls)) := fun T => by rw [← hl]; simp
  have rv := refV (S := S' ++ [Ob.dic false (boxK b c ls)]) (b := b) c1 c2 ok
  have hl2 : (S' ++ [Ob.dic false (boxK b c ls)]).length = S.length + 1 := by simp [hl]
  rw [hl2, List.append_assoc] at rv
  have e2 : Mx.sAsg (gT 2 (gsCons (gN 8) (gsCons (gN 9) gsNil))) (mTup (aCons (mApp fn16 (aCons (mOp opSub_ (mV 4) (mC (.str "doubles"))) (aCons (mOp opSub_ (mV 4) (mC (.str "copies"))) (aCons (mOp opSub_ (mV 4) (mC (.str "lacks"))) aNil)))) (aCons (mOp opSub_ (mV 4) (mC (.str "lacks"))) aNil))) (E12 v0 r bf v3 (some (.ref S.length)) v5 v6 v7 v8 v9 v10 v11) (S' ++ [.dic false (boxK b c ls)])
      = .nx (E12 v0 r bf v3 (some (.ref S.length)) v5 v6 v7 (some (.ref (S.length + 1))) (some (.tup ls)) v10 v11) (S' ++ [.dic false (boxK b c ls), .ins "Box" (bk b c ls)]) := by
    have a3 := ap3 (f := fn16) (sub [] "doubles" _ (at2 _) k1) (sub [] "copies" _ (at2 _) k2) (sub [] "lacks" _ (at2 _) k3)
    rw [rv] at a3
    have a4 := sub [.ins "Box" (bk b c ls)] "lacks" _ (at2 _) k3
    have a5 : mTup (aCons (mApp fn16 (aCons (mOp opSub_ (mV 4) (mC (.str "doubles"))) (aCons (mOp opSub_ (mV 4) (mC (.str "copies"))) (aCons (mOp opSub_ (mV 4) (mC (.str "lacks"))) aNil)))) (aCons (mOp opSub_ (mV 4) (mC (.str "lacks"))) aNil)) (E12 v0 r bf v3 (some (.ref S.length)) v5 v6 v7 v8 v9 v10 v11) (S' ++ [.dic false (boxK b c ls)])
        = .ok (.tup [.ref (S.length + 1), .tup ls]) (S' ++ [.dic false (boxK b c ls), .ins "Box" (bk b c ls)]) := by
      have a4 := sub [.ins "Box" (bk b c ls)] "lacks" _ (at2 _) k3
      exact tupT a3 a4
    unfold Mx.sAsg
    rw [a5]
    rfl
  rw [seq_nx e1, seq_nx e2]
end
end Mx

set_option maxHeartbeats 400000
namespace Mx
open PySem L2 PySem.Spec PyProof.Rows NdefX
section
variable {S : Sto} {ρ : Env} {d x a : D} {ls xs : List D} {q r k n i bf : Nat} {m c : Int} {b : Bool}
theorem g8 (h : S[n]? = some (.ins "Box" (bk b c ls))) : fn8 [.ref n] S = .ok (.bl b) S := by
  have e : (bk b c ls).lookup ("is_double" : Str) = some (.bl b) := rfl
  simp [fn8, mkFn, fb8, sRet, mFld, mV, R.bind, R.thn, h, e]
theorem g9 (h : S[n]? = some (.ins "Box" (bk b c ls))) : fn9 [.ref n] S = .ok (.int c) S := by
  have e : (bk b c ls).lookup ("many" : Str) = some (.int c) := rfl
  simp [fn9, mkFn, fb9, sRet, mFld, mV, R.bind, R.thn, h, e]
theorem g10 (h : S[n]? = some (.ins "Box" (bk b c ls))) : fn10 [.ref n] S = .ok (.tup ls) S := by
  have e : (bk b c ls).lookup ("holes" : Str) = some (.tup ls) := rfl
  simp [fn10, mkFn, fb10, sRet, mFld, mV, R.bind, R.thn, h, e]
theorem prop_ {f : Str} {g : Fn} (h : S[n]? = some (.ins "Box" (bk b c ls))) (h8 : ρ.sl[8]? = some (some (.ref n))) (hg : g [.ref n] S = .ok d S) : mProp "Box" f g (mV 8) ρ S = .ok d S := by
  simp [mProp, R.bind, vv h8, h, hg]
theorem all_refl (ok : OkL ls) : PyData.eqvAll (ls.map pdL) (ls.map pdL) = true := by
  rcases ok with rfl | ⟨a, ha, rfl⟩ | ⟨a, ha, e, he, rfl, _⟩
  · simp [PyData.eqvAll]
  · have h1 := eqL_refl ha
    unfold eqL at h1
    simp [PyData.eqvAll, h1]
  · have h1 := eqL_refl ha
    have h2 := eqL_refl he
    unfold eqL at h1 h2
    simp [PyData.eqvAll, h1, h2]
theorem ne_three {j : Nat} (ok : OkL ls) (h1 : S[i]? = some (.lst [.bl b, .int c, .tup ls])) (h2 : S[j]? = some (.lst [.bl b, .int c, .tup ls])) : opNe (.ref i) (.ref j) S = .ok (.bl false) S := by
  have hp := pd_Ls ok.all S 55
  have p : ∀ k, S[k]? = some (.lst [.bl b, .int c, .tup ls]) → pd S 60 (.ref k) = some (.list [.bool b, .int c, .tuple (ls.map pdL)]) := fun k hk => by
    show (match S[k]? with
      | some (.lst ds) => (mapO (fun d => pd S 59 d) ds).map PyData.list
      | _ => none) = _
    rw [hk]
    have e1 : pd S 59 (.bl b) = some (.bool b) := rfl
    have e2 : pd S 59 (.int c) = some (.int c) := rfl
    simp [mapO, e1, e2, hp]
  unfold opNe
  rw [p i h1, p j h2]
  simp [PyData.eqv, PyData.eqvAll, all_refl ok]
theorem own_dict (h : S[n]? = some (.ins "Box" (bk b c ls))) {kv : List (Key × D)} (hd : S[i]? = some (.dic false kv)) : opEqOwn "Box" fn11 (.ref n) (.ref i) S = .ok (.bl false) S := by
  have e : fn11 [.ref n, .ref i] S = .ok (.bl false) S := by
    simp [fn11, mkFn, fb11, sSeq, sIf, Mx.tOr, Mx.tNot, tB, mApp, aCons, aNil, mV, mC, R.bind, R.thn, RS.bind, fIsi, owns, tyOf, hd, sRet]
  simp [opEqOwn, h, tyOf, hd, eqTy, e, R.isBl]
end
end Mx

set_option maxHeartbeats 400000
namespace Mx
open PySem L2 PySem.Spec PyProof.Rows NdefX
section
variable {S : Sto} {ρ : Env} {d x a : D} {ls ls' xs : List D} {q r k n i j o bf : Nat} {m c c' : Int} {b b' : Bool}
/-- two boxes, two descriptions: alike alike -/
def same (b : Bool) (c : Int) (ls : List D) (b' : Bool) (c' : Int) (ls' : List D) : Bool := PyData.eqv (.bool b) (.bool b') && (PyData.eqv (.int c) (.int c') && PyData.eqv (.tuple (ls.map pdL)) (.tuple (ls'.map pdL)))
theorem ne_bl (x y : Bool) (S : Sto) : opNe (.bl x) (.bl y) S = .ok (.bl (!PyData.eqv (.bool x) (.bool y))) S := rfl
theorem eq_i (x y : Int) (S : Sto) : opEq (.int x) (.int y) S = .ok (.bl (PyData.eqv (.int x) (.int y))) S := rfl
theorem eq_l (h : ∀ d ∈ ls, d ∈ allL) (h' : ∀ d ∈ ls', d ∈ allL) (S : Sto) : opEq (.tup ls) (.tup ls') S = .ok (.bl (PyData.eqv (.tuple (ls.map pdL)) (.tuple (ls'.map pdL)))) S := by
  unfold opEq
  rw [pd_Ls h S 56, pd_Ls h' S 56]
theorem fb_1 : (bk b c ls).lookup ("is_double" : Str) = some (.bl b) := rfl
theorem fb_2 : (bk b c ls).lookup ("many" : Str) = some (.int c) := rfl
theorem fb_3 : (bk b c ls).lookup ("holes" : Str) = some (.tup ls) := rfl
theorem own_box (ok : OkL ls) (ok' : OkL ls') (h : S[n]? = some (.ins "Box" (bk b c ls))) (h' : S[o]? = some (.ins "Box" (bk b' c' ls'))) : opEqOwn "Box" fn11 (.ref n) (.ref o) S = .ok (.bl (same b c ls b' c' ls')) S := by
  have e : fn11 [.ref n, .ref o] S = .ok (.bl (same b c ls b' c' ls')) S := by
    unfold same
    cases q1 : PyData.eqv (.bool b) (.bool b') with
    | false => simp [fn11, mkFn, fb11, sSeq, sIf, Mx.tOr, Mx.tNot, tB, mOp, mApp, aCons, aNil, mV, mC, R.bind, R.thn, RS.bind, fIsi, owns, tyOf, h, h', sRet, mFld, fb_1, ne_bl, q1]
    | true =>
      cases q2 : PyData.eqv (.int c) (.int c') <;>
        simp [fn11, mkFn, fb11, sSeq, sIf, Mx.tOr, Mx.tNot, tB, mOp, mApp, aCons, aNil, mV, mC, R.bind, R.thn, RS.bind, fIsi, owns, tyOf, h, h', sRet, mFld, fb_1, fb_2, fb_3, ne_bl, q1, q2, eq_i, eq_l ok.all ok'.all, sNil, mAnd]
  simp [opEqOwn, h, tyOf, h', eqTy, e, R.isBl]
theorem dic_dic (ok : OkL ls) (ok' : OkL ls') (h : S[i]? = some (.dic false (boxK b c ls))) (h' : S[j]? = some (.dic false (boxK b' c' ls'))) : opEqDic (.ref i) (.ref j) S = .ok (.bl (same b c ls b' c' ls')) S := by
  have k1 : getK (boxK b' c' ls') (.inr "doubles") = some (.bl b') := rfl
  have k2 : getK (boxK b' c' ls') (.inr "copies") = some (.int c') := rfl
  have k3 : getK (boxK b' c' ls') (.inr "lacks") = some (.tup ls') := rfl
  have e : eqKV S (boxK b' c' ls') (boxK b c ls) = some (same b c ls b' c' ls') := by
    have p1 : ∀ x, pd S 55 (.bl x) = some (.bool x) := fun _ => rfl
    have p2 : ∀ x, pd S 55 (.int x) = some (.int x) := fun _ => rfl
    have p3 := pd_Ls ok.all S 51
    have p4 := pd_Ls ok'.all S 51
    unfold boxK at k1 k2 k3 ⊢
    simp only [eqKV, k1, k2, k3, p1, p2, p3, p4, same, Bool.and_true]
  have l : (boxK b c ls).length = (boxK b' c' ls').length := rfl
  simp only [opEqDic, h, h', l, if_true, e]
/-- what has been drawn before -/
def Good (S : Sto) (r bf : Nat) (ps : List D) : Prop := ∀ p ∈ ps, ∃ (n i : Nat) (b : Bool) (c : Int) (ls : List D), p = .tup [.ref n, .ref i] ∧ S[n]? = some (.ins "Box" (bk b c ls)) ∧ S[i]? = some (.dic false (boxK b c ls)) ∧ OkL ls
theorem Good.kp {S' : Sto} {ps : List D} (h : Good S r bf ps) (k : Kp r S S') (hr : ∃ v, S[r]? = some (.lst v)) : Good S' r bf ps := by
  intro p hp
  obtain ⟨n, i, b, c, ls, e, h1, h2, ok⟩ := h p hp
  obtain ⟨v, hv⟩ := hr
  refine ⟨n, i, b, c, ls, e, k.get h1 (fun z => ?_), k.get h2 (fun z => ?_), ok⟩
  · rw [z, hv] at h1; cases h1
  · rw [z, hv] at h2; cases h2
end
end Mx

set_option maxHeartbeats 400000
namespace Mx
open PySem L2 PySem.Spec PyProof.Rows NdefX
section
variable {S : Sto} {ls : List D} {q r n i bf : Nat} {c : Int} {b : Bool} {v0 v3 v5 v6 v7 v9 v10 v11 : Option D} {ps : List D}
abbrev cT : SemT := tB (mOp opNe (mOp (opEqOwn "Box" fn11) (mV 10) (mV 8)) (mOp opEqDic (mV 11) (mV 4)))
abbrev gTT : Tgt := gT 2 (gsCons (gN 10) (gsCons (gN 11) gsNil))
abbrev itB (bf m : Nat) : Itr := ⟨m, fun i S => match S[bf]? with
      | some (.lst es) => es[i]?
      | _ => none, fun S => match S[bf]? with
      | some (.lst es) => decide (es.length ≤ m)
      | _ => false⟩
theorem comp_ (ok : OkL ls) (hn : S[n]? = some (.ins "Box" (bk b c ls))) (hi : S[i]? = some (.dic false (boxK b c ls))) (hb : S[bf]? = some (.lst ps)) (hg : Good S r bf ps) (k : Nat) :
    ∀ m j, j + m = ps.length → compLoop (itB bf ps.length) gTT cT (mV 10) [10, 11] k m j (E12 v0 r bf v3 (some (.ref i)) v5 v6 v7 (some (.ref n)) v9 v10 v11) S = (if (itB bf ps.length).stop S = true then .ok (.ref k) S else .bad)
  | 0, j, _ => by
    unfold compLoop
    rfl
  | m + 1, j, hj => by
    have hlt : j < ps.length := by omega
    obtain ⟨n', i', b', c', ls', e, h1, h2, ok'⟩ := hg ps[j] (List.getElem_mem hlt)
    have hit : (itB bf ps.length).item j S = some (.tup [.ref n', .ref i']) := by
      show (match S[bf]? with
      | some (.lst es) => es[j]?
      | _ => none) = _
      rw [hb, ← e]
      exact List.getElem?_eq_getElem hlt
    have hgt : gTT (.tup [.ref n', .ref i']) ((E12 v0 r bf v3 (some (.ref i)) v5 v6 v7 (some (.ref n)) v9 v10 v11).wipe [10, 11]) = some (E12 v0 r bf v3 (some (.ref i)) v5 v6 v7 (some (.ref n)) v9 (some (.ref n')) (some (.ref i'))) := rfl
    have ht : cT (E12 v0 r bf v3 (some (.ref i)) v5 v6 v7 (some (.ref n)) v9 (some (.ref n')) (some (.ref i'))) S = .ok false S := by
      have a1 : (mOp (opEqOwn "Box" fn11) (mV 10) (mV 8)) (E12 v0 r bf v3 (some (.ref i)) v5 v6 v7 (some (.ref n)) v9 (some (.ref n')) (some (.ref i'))) S = .ok (.bl (same b' c' ls' b c ls)) S := by
        have z := own_box ok' ok h1 hn
        simp only [mOp, R.bind, vv (ρ := E12 v0 r bf v3 (some (.ref i)) v5 v6 v7 (some (.ref n)) v9 (some (.ref n')) (some (.ref i'))) (i := 10) (d := .ref n') rfl, vv (ρ := E12 v0 r bf v3 (some (.ref i)) v5 v6 v7 (some (.ref n)) v9 (some (.ref n')) (some (.ref i'))) (i := 8) (d := .ref n) rfl, z]
      have a2 : (mOp opEqDic (mV 11) (mV 4)) (E12 v0 r bf v3 (some (.ref i)) v5 v6 v7 (some (.ref n)) v9 (some (.ref n')) (some (.ref i'))) S = .ok (.bl (same b' c' ls' b c ls)) S := by
        have z := dic_dic ok' ok h2 hi
        simp only [mOp, R.bind, vv (ρ := E12 v0 r bf v3 (some (.ref i)) v5 v6 v7 (some (.ref n)) v9 (some (.ref n')) (some (.ref i'))) (i := 11) (d := .ref i') rfl, vv (ρ := E12 v0 r bf v3 (some (.ref i)) v5 v6 v7 (some (.ref n)) v9 (some (.ref n')) (some (.ref i'))) (i := 4) (d := .ref i) rfl, z]
      have a3 : opNe (.bl (same b' c' ls' b c ls)) (.bl (same b' c' ls' b c ls)) S = .ok (.bl false) S := by
        cases same b' c' ls' b c ls <;> rfl
      show (tB (mOp opNe _ _)) _ S = _
      unfold tB
      rw [show ∀ (f g : Sem) ρ S, mOp opNe f g ρ S = (f ρ S).bind fun x S => (g ρ S).bind fun y S => opNe x y S from fun _ _ _ _ => rfl, a1]
      simp only [R.bind]
      rw [a2]
      simp only []
      rw [a3]
    have ih := comp_ ok hn hi hb hg k m (j + 1) (by omega)
    unfold compLoop
    rw [hit]
    simp only []
    rw [hgt]
    simp only []
    rw [ht]
    exact ih
end
end Mx

set_option maxHeartbeats 400000
namespace Mx
open PySem L2 PySem.Spec PyProof.Rows NdefX
section
variable {S : Sto} {ρ : Env} {ls : List D} {q r n i bf : Nat} {c : Int} {b : Bool} {v0 v3 v5 v6 v7 v9 v10 v11 : Option D} {ps : List D}
theorem lst3 {e1 e2 e3 : Sem} {x y z : D} (h1 : e1 ρ S = .ok x S) (h2 : e2 ρ S = .ok y S) (h3 : e3 ρ S = .ok z S) : mLst (aCons e1 (aCons e2 (aCons e3 aNil))) ρ S = .ok (.ref S.length) (S ++ [.lst [x, y, z]]) := by
  simp [mLst, aCons, aNil, R.bind, h1, h2, h3, sizeLine_eq]
theorem key_ {s : Str} {d : D} (h4 : ρ.sl[4]? = some (some (.ref i))) (hi : S[i]? = some (.dic false (boxK b c ls))) (hk : getK (boxK b c ls) (.inr s) = some d) : (mOp opSub_ (mV 4) (mC (.str s))) ρ S = .ok d S := by
  simp only [mOp, R.bind, vv h4, mC, opSub_, hi, keyD, hk]
theorem app_get {x : Ob} {k : Nat} (h : S[k]? = some x) (T : Sto) : (S ++ T)[k]? = some x := by rw [List.getElem?_append_left (List.getElem?_eq_some_iff.mp h).1]; exact h
theorem t3 (ok : OkL ls) (h4 : ρ.sl[4]? = some (some (.ref i))) (h8 : ρ.sl[8]? = some (some (.ref n))) (h9 : ρ.sl[9]? = some (some (.tup ls))) (hn : S[n]? = some (.ins "Box" (bk b c ls))) (hi : S[i]? = some (.dic false (boxK b c ls))) :
    (Mx.tOr (tB (mOp opNe (mLst (aCons (mProp "Box" "doubles" fn8 (mV 8)) (aCons (mProp "Box" "copies" fn9 (mV 8)) (aCons (mProp "Box" "lacks" fn10 (mV 8)) aNil)))) (mLst (aCons (mOp opSub_ (mV 4) (mC (.str "doubles"))) (aCons (mOp opSub_ (mV 4) (mC (.str "copies"))) (aCons (mV 9) aNil)))))) (tB (mOp (opEqOwn "Box" fn11) (mV 8) (mV 4)))) ρ S
      = .ok false (S ++ [.lst [.bl b, .int c, .tup ls], .lst [.bl b, .int c, .tup ls]]) := by
  have l1 := lst3 (prop_ (f := "doubles") hn h8 (g8 hn)) (prop_ (f := "copies") hn h8 (g9 hn)) (prop_ (f := "lacks") hn h8 (g10 hn))
  have hi1 := app_get hi [.lst [.bl b, .int c, .tup ls]]
  have l2 := lst3 (key_ (s := "doubles") (d := .bl b) h4 hi1 rfl) (key_ (s := "copies") (d := .int c) h4 hi1 rfl) (vv h9 (S ++ [.lst [.bl b, .int c, .tup ls]]))
  rw [len1, two] at l2
  have z := ne_three (b := b) (c := c) (ls := ls) (S := S ++ [.lst [.bl b, .int c, .tup ls], .lst [.bl b, .int c, .tup ls]]) (i := S.length) (j := S.length + 1) ok (by simp) (by simp)
  have w := own_dict (app_get hn [.lst [.bl b, .int c, .tup ls], .lst [.bl b, .int c, .tup ls]]) (app_get hi _)
  have e1 : (tB (mOp opNe (mLst (aCons (mProp "Box" "doubles" fn8 (mV 8)) (aCons (mProp "Box" "copies" fn9 (mV 8)) (aCons (mProp "Box" "lacks" fn10 (mV 8)) aNil)))) (mLst (aCons (mOp opSub_ (mV 4) (mC (.str "doubles"))) (aCons (mOp opSub_ (mV 4) (mC (.str "copies"))) (aCons (mV 9) aNil)))))) ρ S
      = .ok false (S ++ [.lst [.bl b, .int c, .tup ls], .lst [.bl b, .int c, .tup ls]]) := by
    unfold tB
    rw [show ∀ (f g : Sem) ρ S, mOp opNe f g ρ S = (f ρ S).bind fun x S => (g ρ S).bind fun y S => opNe x y S from fun _ _ _ _ => rfl, l1]
    simp only [R.bind]
    rw [l2]
    simp only []
    rw [z]
  unfold Mx.tOr
  rw [e1]
  simp only [R.bind]
  simp [tB, mOp, R.bind, vv h8, vv h4, w]
theorem t4 (ok : OkL ls) (hn : S[n]? = some (.ins "Box" (bk b c ls))) (hi : S[i]? = some (.dic false (boxK b c ls))) (hb : S[bf]? = some (.lst ps)) (hg : ∀ T, Good (S ++ T) r bf ps) :
    (tB (mOp opNe (mComp (itL (mV 2)) gTT cT (mV 10) [10, 11]) (mLst aNil))) (E12 v0 r bf v3 (some (.ref i)) v5 v6 v7 (some (.ref n)) v9 v10 v11) S = .ok false (S ++ [.lst [], .lst []]) := by
  have cm := comp_ (v0 := v0) (v3 := v3) (v5 := v5) (v6 := v6) (v7 := v7) (v9 := v9) (v10 := v10) (v11 := v11) ok (app_get hn [.lst []]) (app_get hi [.lst []]) (app_get hb [.lst []]) (hg [.lst []]) S.length ps.length 0 (by omega)
  have st : (itB bf ps.length).stop (S ++ [.lst []]) = true := by
    show (match (S ++ [Ob.lst []])[bf]? with
      | some (.lst es) => decide (es.length ≤ ps.length)
      | _ => false) = true
    rw [app_get hb]
    simp
  rw [if_pos st] at cm
  have e0 : itL (mV 2) (E12 v0 r bf v3 (some (.ref i)) v5 v6 v7 (some (.ref n)) v9 v10 v11) S = .ok (itB bf ps.length) S := by
    have hv : mV 2 (E12 v0 r bf v3 (some (.ref i)) v5 v6 v7 (some (.ref n)) v9 v10 v11) S = .ok (.ref bf) S := rfl
    simp only [itL, R.bind, hv, hb] <;> rfl
  have e1 : mComp (itL (mV 2)) gTT cT (mV 10) [10, 11] (E12 v0 r bf v3 (some (.ref i)) v5 v6 v7 (some (.ref n)) v9 v10 v11) S = .ok (.ref S.length) (S ++ [.lst []]) := by
    unfold mComp
    rw [e0]
    exact cm
  have e2 : mLst aNil (E12 v0 r bf v3 (some (.ref i)) v5 v6 v7 (some (.ref n)) v9 v10 v11) (S ++ [.lst []]) = .ok (.ref (S.length + 1)) (S ++ [.lst [], .lst []]) := by
    simp [mLst, aNil, R.bind, sizeLine_eq]
  have z : opNe (.ref S.length) (.ref (S.length + 1)) (S ++ [.lst [], .lst []]) = .ok (.bl false) (S ++ [.lst [], .lst []]) := by
    simp [opNe, pd, mapO, PyData.eqv, PyData.eqvAll]
  unfold tB
  rw [show ∀ (f g : Sem) ρ S, mOp opNe f g ρ S = (f ρ S).bind fun x S => (g ρ S).bind fun y S => opNe x y S from fun _ _ _ _ => rfl, e1]
  simp only [R.bind]
  rw [e2]
  simp only []
  rw [z]
theorem s5 (hb : S[bf]? = some (.lst ps)) (hl : ps.length ≤ 1000) : sExp (mBM "list" fApp (mV 2) (aCons (mTup (aCons (mV 8) (aCons (mV 4) aNil))) aNil)) (E12 v0 r bf v3 (some (.ref i)) v5 v6 v7 (some (.ref n)) v9 v10 v11) S
    = .nx (E12 v0 r bf v3 (some (.ref i)) v5 v6 v7 (some (.ref n)) v9 v10 v11) (S.set bf (.lst (ps ++ [.tup [.ref n, .ref i]]))) := by
  have l : ps.length < 16777216 := by omega
  simp [sExp, mBM, mV, E12, R.bind, R.thn, tyB, hb, aCons, aNil, mTup, sizeLine_eq, fApp, l]
end
end Mx

set_option maxHeartbeats 400000
namespace Mx
open PySem L2 PySem.Spec PyProof.Rows NdefX
abbrev no_ (t : SemT) : Stm := sIf t (sRet (mC (.bl false))) sNil
abbrev T3 : SemT := (Mx.tOr (tB (mOp opNe (mLst (aCons (mProp "Box" "doubles" fn8 (mV 8)) (aCons (mProp "Box" "copies" fn9 (mV 8)) (aCons (mProp "Box" "lacks" fn10 (mV 8)) aNil)))) (mLst (aCons (mOp opSub_ (mV 4) (mC (.str "doubles"))) (aCons (mOp opSub_ (mV 4) (mC (.str "copies"))) (aCons (mV 9) aNil)))))) (tB (mOp (opEqOwn "Box" fn11) (mV 8) (mV 4))))
abbrev T10 : SemT := (Mx.tAnd (tB (mOp opLt (mApp fLen (aCons (mV 9) aNil)) (mC (.int 2)))) (tB (mOp opNe (mApp fn16 (aCons (mC (.bl true)) (aCons (mC (.int 1)) (aCons (mOp opAdd (mV 9) (mTup (aCons (mV 6) aNil))) aNil)))) (mLst (aCons (mC (.str "lack")) (aCons (mApp fLen (aCons (mV 9) aNil)) aNil))))))
abbrev T11 : SemT := (tB (mOp opNe (mApp fn16 (aCons (mC (.bl true)) (aCons (mC (.int 1)) (aCons (mTup (aCons (mV 6) (aCons (mC .non) aNil))) aNil)))) (mLst (aCons (mC (.str "lack")) (aCons (mC (.int 0)) aNil)))))
abbrev T12 : SemT := (Mx.tAnd (tB (mOp opNe (mV 9) (mTup aNil))) (tB (mOp opNe (mApp fn16 (aCons (mC (.bl true)) (aCons (mC (.int 1)) (aCons (mOp opMul (mSlice (mV 9) oNone (oSome (mC (.int 1)))) (mC (.int 2))) aNil)))) (mLst (aCons (mC (.str "lack")) (aCons (mC (.int 1)) aNil))))))
abbrev M13 : Sem := (mOp opSub_ (mLst (aCons (mC .non) (aCons (mLst aNil) (aCons (mC (.str "pip")) (aCons (mTup (aCons (mTup (aCons (mC (.str "pip")) (aCons (mC (.int 0)) aNil))) (aCons (mTup (aCons (mC (.str "pip")) (aCons (mC (.int 1)) aNil))) (aCons (mTup (aCons (mC (.str "pip")) (aCons (mC (.int 2)) aNil))) aNil)))) (aCons mDic0 aNil)))))) (mApp fn13 (aCons (mV 1) (aCons (mC (.int 5)) aNil))))
abbrev T14 : SemT := (tB (mOp opNe (mApp fn16 (aCons (mC (.bl true)) (aCons (mC (.int 1)) (aCons (mV 7) aNil)))) (mLst (aCons (mC (.str "lack")) (aCons (mC .non) aNil)))))
abbrev T15 : SemT := (tB (mOp opNe (mApp fn16 (aCons (mC (.bl true)) (aCons (mOp opSub_ (mLst (aCons (mC (.int 0)) (aCons (mC (.int 4)) (aCons (mC (.bl true)) (aCons (mC .non) (aCons (mC (.str "1")) aNil)))))) (mApp fn13 (aCons (mV 1) (aCons (mC (.int 5)) aNil)))) (aCons (mC .non) aNil)))) (mC (.str "copies"))))
abbrev T16 : SemT := (tB (mOp opNe (mApp fn16 (aCons (mOp opSub_ (mLst (aCons (mC (.int 0)) (aCons (mC (.int 1)) (aCons (mC .non) (aCons (mC (.str "yes")) aNil))))) (mApp fn13 (aCons (mV 1) (aCons (mC (.int 4)) aNil)))) (aCons (mC (.int 0)) (aCons (mC .non) aNil)))) (mC (.str "doubles"))))
def tailB : Stm := sSeq (no_ T10) (sSeq (no_ T11) (sSeq (no_ T12) (sSeq (sSet 7 M13) (sSeq (no_ T14) (sSeq (no_ T15) (no_ T16))))))
def midB : Stm := sSeq (sSet 5 lA) (sSeq (sSet 5 (mOp opAdd (mV 5) lB)) (sSeq (sSet 5 (mOp opAdd (mV 5) lC)) (sSeq (sSet 6 (mOp opSub_ (mV 5) (mApp fn13 (aCons (mV 1) (aCons (mC (.int 20)) aNil))))) tailB)))
def bodyB : Stm := sSeq (sSet 4 (mApp fn15 (aCons (mV 1) aNil))) (sSeq (Mx.sAsg (gT 2 (gsCons (gN 8) (gsCons (gN 9) gsNil))) (mTup (aCons (mApp fn16 (aCons (mOp opSub_ (mV 4) (mC (.str "doubles"))) (aCons (mOp opSub_ (mV 4) (mC (.str "copies"))) (aCons (mOp opSub_ (mV 4) (mC (.str "lacks"))) aNil)))) (aCons (mOp opSub_ (mV 4) (mC (.str "lacks"))) aNil))))
  (sSeq (no_ T3) (sSeq (no_ (tB (mOp opNe (mComp (itL (mV 2)) gTT cT (mV 10) [10, 11]) (mLst aNil)))) (sSeq (sExp (mBM "list" fApp (mV 2) (aCons (mTup (aCons (mV 8) (aCons (mV 4) aNil))) aNil))) midB))))
theorem fb17_eq : fb17 = sSeq (sSet 1 (mApp fn12 (aCons (mV 0) aNil))) (sSeq (sSet 2 (mLst aNil)) (sSeq (sFor (itR1 (mC (.int 6))) (gN 3) bodyB) (sRet (mC (.bl true))))) := rfl
section
variable {S : Sto} {ls : List D} {d : D} {q r n i bf : Nat} {v0 v3 v4 v5 v6 v7 v8 v9 v10 v11 : Option D} {ps : List D}
theorem tail_ (h : Rok S q r) (ok : OkL ls) (hb : BadD S d) (hbr : ∀ T, BadD (S ++ T) d) : ∃ x S', tailB (E12 v0 r bf v3 v4 v5 (some d) v7 v8 (some (.tup ls)) v10 v11) S = .nx (E12 v0 r bf v3 v4 v5 (some d) x v8 (some (.tup ls)) v10 v11) S' ∧ Rok S' q r ∧ Kp r S S' := by
  obtain ⟨S1, e1, T1, rfl⟩ := t10 (ρ := E12 v0 r bf v3 v4 v5 (some d) v7 v8 (some (.tup ls)) v10 v11) (S := S) (d := d) rfl rfl ok hb
  have e2 := t11 (ρ := E12 v0 r bf v3 v4 v5 (some d) v7 v8 (some (.tup ls)) v10 v11) (S := S ++ T1) (d := d) rfl (hbr T1)
  obtain ⟨S3, e3, T3', rfl⟩ := t12 (ρ := E12 v0 r bf v3 v4 v5 (some d) v7 v8 (some (.tup ls)) v10 v11) (S := (S ++ T1) ++ [.ins "Box" [], lkL (.int 0), lkL (.int 0)]) rfl ok
  obtain ⟨x, S4, e4, th, h4, k4⟩ := t13 (ρ := E12 v0 r bf v3 v4 v5 (some d) v7 v8 (some (.tup ls)) v10 v11) (r := r) rfl (((h.add T1).add [.ins "Box" [], lkL (.int 0), lkL (.int 0)]).add T3')
  have e5 := t14 (ρ := E12 v0 r bf v3 v4 v5 (some d) (some x) v8 (some (.tup ls)) v10 v11) (S := S4) (x := x) rfl th.ref
  obtain ⟨S6, e6, h6, k6⟩ := t15 (ρ := E12 v0 r bf v3 v4 v5 (some d) (some x) v8 (some (.tup ls)) v10 v11) (r := r) rfl (h4.add [.ins "Box" [], lkL .non, lkL .non])
  obtain ⟨S7, e7, h7, k7⟩ := t16 (ρ := E12 v0 r bf v3 v4 v5 (some d) (some x) v8 (some (.tup ls)) v10 v11) (r := r) rfl h6
  refine ⟨some x, S7, ?_, h7, ((Kp.add r S T1).trans ((Kp.add r _ _).trans (Kp.add r _ T3'))).trans (k4.trans ((Kp.add r S4 _).trans (k6.trans k7)))⟩
  unfold tailB
  have e4' : sSet 7 M13 (E12 v0 r bf v3 v4 v5 (some d) v7 v8 (some (.tup ls)) v10 v11) (((S ++ T1) ++ [.ins "Box" [], lkL (.int 0), lkL (.int 0)]) ++ T3') = .nx (E12 v0 r bf v3 v4 v5 (some d) (some x) v8 (some (.tup ls)) v10 v11) S4 := by
    have e4b : M13 (E12 v0 r bf v3 v4 v5 (some d) v7 v8 (some (.tup ls)) v10 v11) (((S ++ T1) ++ [.ins "Box" [], lkL (.int 0), lkL (.int 0)]) ++ T3') = .ok x S4 := e4
    unfold sSet
    rw [e4b]
    rfl
  rw [seq_nx (if_no e1), seq_nx (if_no e2), seq_nx (if_no e3), seq_nx e4', seq_nx (if_no e5), seq_nx (if_no e6)]
  exact if_no e7
theorem BadD.add {d : D} (h : BadD S d) (T : Sto) : BadD (S ++ T) d := fun T2 => by rw [List.append_assoc]; exact h (T ++ T2)
theorem Rok.set {x : Ob} (h : Rok S q r) (h1 : bf ≠ r) (h2 : bf ≠ q) : Rok (S.set bf x) q r := by
  obtain ⟨ns, i, c, z, a1, a2, a3⟩ := h
  exact ⟨ns, i, c, z, by rw [List.getElem?_set_ne h1]; exact a1, by rw [List.getElem?_set_ne h2]; exact a2, a3⟩
theorem turn_ (h : Rok S q r) (hb : S[bf]? = some (.lst ps)) (h1 : bf ≠ r) (h2 : bf ≠ q) (hl : ps.length ≤ 1000) (hg : Good S r bf ps) : ∃ w4 w5 w6 w7 w8 w9 S' ps', bodyB (E12 v0 r bf v3 v4 v5 v6 v7 v8 v9 v10 v11) S = .nx (E12 v0 r bf v3 w4 w5 w6 w7 w8 w9 v10 v11) S' ∧ Rok S' q r ∧ S'[bf]? = some (.lst ps') ∧ ps'.length = ps.length + 1 ∧ Good S' r bf ps' := by
  obtain ⟨b, c, ls, S1, e1, hr1, o1, c1, c2, ok⟩ := made_ (bf := bf) (v0 := v0) (v3 := v3) (v4 := v4) (v5 := v5) (v6 := v6) (v7 := v7) (v8 := v8) (v9 := v9) (v10 := v10) (v11 := v11) h
  have l1 : S1.length = S.length := o1.1
  have hbl := (List.getElem?_eq_some_iff.mp hb).1
  have rl : ∃ v, S[r]? = some (.lst v) := by
    obtain ⟨ns, i, c, z, a1, _⟩ := h
    exact ⟨_, a1⟩
  have rlR : ∀ {S : Sto}, Rok S q r → ∃ v, S[r]? = some (.lst v) := fun h => by
    obtain ⟨ns, i, c, z, a1, _⟩ := h
    exact ⟨_, a1⟩
  generalize hS2 : S1 ++ [Ob.dic false (boxK b c ls), .ins "Box" (bk b c ls)] = S2 at e1
  have hr2 : Rok S2 q r := by rw [← hS2]; exact hr1.add _
  have k2 : Kp r S S2 := by rw [← hS2]; exact o1.kp.trans (Kp.add r S1 _)
  have hi2 : S2[S.length]? = some (.dic false (boxK b c ls)) := by rw [← hS2, ← l1]; simp
  have hn2 : S2[S.length + 1]? = some (.ins "Box" (bk b c ls)) := by rw [← hS2, ← l1]; simp
  have hb2 : S2[bf]? = some (.lst ps) := k2.get hb h1
  have hg2 := hg.kp k2 rl
  have e3 := t3 (ρ := E12 v0 r bf v3 (some (.ref S.length)) v5 v6 v7 (some (.ref (S.length + 1))) (some (.tup ls)) v10 v11) ok rfl rfl rfl hn2 hi2
  generalize hS3 : S2 ++ [Ob.lst [.bl b, .int c, .tup ls], .lst [.bl b, .int c, .tup ls]] = S3 at e3
  have k3 : Kp r S2 S3 := by rw [← hS3]; exact Kp.add r S2 _
  have hr3 : Rok S3 q r := by rw [← hS3]; exact hr2.add _
  have hi3 := k3.get hi2 (by have := h.lt; omega)
  have hn3 := k3.get hn2 (by have := h.lt; omega)
  have hb3 := k3.get hb2 h1
  have hg3 := hg2.kp k3 (rlR hr2)
  have e4 := t4 (v0 := v0) (v3 := v3) (v5 := v5) (v6 := v6) (v7 := v7) (v9 := some (.tup ls)) (v10 := v10) (v11 := v11) (r := r) ok hn3 hi3 hb3 (fun T => hg3.kp (Kp.add r S3 T) (rlR hr3))
  generalize hS4 : S3 ++ [Ob.lst [], .lst []] = S4 at e4
  have k4 : Kp r S3 S4 := by rw [← hS4]; exact Kp.add r S3 _
  have hr4 : Rok S4 q r := by rw [← hS4]; exact hr3.add _
  have hi4 := k4.get hi3 (by have := h.lt; omega)
  have hn4 := k4.get hn3 (by have := h.lt; omega)
  have hb4 := k4.get hb3 h1
  have hg4 := hg3.kp k4 (rlR hr3)
  have e5 := s5 (v0 := v0) (r := r) (v3 := v3) (i := S.length) (v5 := v5) (v6 := v6) (v7 := v7) (n := S.length + 1) (v9 := some (.tup ls)) (v10 := v10) (v11 := v11) hb4 hl
  generalize hS5 : S4.set bf (.lst (ps ++ [.tup [.ref (S.length + 1), .ref S.length]])) = S5 at e5
  have hr5 : Rok S5 q r := by rw [← hS5]; exact hr4.set h1 h2
  have hb5 : S5[bf]? = some (.lst (ps ++ [.tup [.ref (S.length + 1), .ref S.length]])) := by rw [← hS5]; exact set_at hb4
  have other : ∀ {k : Nat} {x : Ob}, S4[k]? = some x → (∀ v, x ≠ .lst v) → S5[k]? = some x := fun {k x} hk hx => by
    rw [← hS5, List.getElem?_set_ne]
    · exact hk
    · intro z
      rw [← z, hb4] at hk
      cases hk
      exact hx _ rfl
  have hg5 : Good S5 r bf (ps ++ [.tup [.ref (S.length + 1), .ref S.length]]) := by
    intro p hp
    rcases List.mem_append.mp hp with hp | hp
    · obtain ⟨n, i, b', c', ls', e, a1, a2, a3⟩ := hg4 p hp
      exact ⟨n, i, b', c', ls', e, other a1 (fun v z => by cases z), other a2 (fun v z => by cases z), a3⟩
    · rw [List.mem_singleton] at hp
      exact ⟨_, _, b, c, ls, hp, other hn4 (fun v z => by cases z), other hi4 (fun v z => by cases z), ok⟩
  obtain ⟨d, w, S6, e6, hbad, hr6, k6⟩ := odd_ (bf := bf) (v0 := v0) (v3 := v3) (v4 := some (.ref S.length)) (v5 := v5) (v6 := v6) (v7 := v7) (v8 := some (.ref (S.length + 1))) (v9 := some (.tup ls)) (v10 := v10) (v11 := v11) hr5
  obtain ⟨x, S7, e7, hr7, k7⟩ := tail_ (bf := bf) (v0 := v0) (v3 := v3) (v4 := some (.ref S.length)) (v5 := w) (v7 := v7) (v8 := some (.ref (S.length + 1))) (v10 := v10) (v11 := v11) hr6 ok hbad (fun T => hbad.add T)
  refine ⟨some (.ref S.length), w, some d, x, some (.ref (S.length + 1)), some (.tup ls), S7, _, ?_, hr7, (k6.trans k7).get hb5 h1, by simp, hg5.kp (k6.trans k7) (rlR hr5)⟩
  unfold bodyB
  rw [e1, seq_nx (if_no e3), seq_nx (if_no e4), seq_nx e5]
  unfold midB
  rw [e6]
  exact e7
end
theorem loop_ {v0 : Option D} {q r bf : Nat} (h1 : bf ≠ r) (h2 : bf ≠ q) : ∀ (m j : Nat) (v3 v4 v5 v6 v7 v8 v9 v10 v11 : Option D) (S : Sto) (ps : List D), Rok S q r → S[bf]? = some (.lst ps) → ps.length + m ≤ 1000 → Good S r bf ps →
    ∃ ρ S', loop (rngI 0 6) (gN 3) bodyB m j (E12 v0 r bf v3 v4 v5 v6 v7 v8 v9 v10 v11) S = .nx ρ S'
  | 0, j, v3, v4, v5, v6, v7, v8, v9, v10, v11, S, ps, hr, hb, hl, hg => ⟨_, _, rfl⟩
  | m + 1, j, v3, v4, v5, v6, v7, v8, v9, v10, v11, S, ps, hr, hb, hl, hg => by
    obtain ⟨w4, w5, w6, w7, w8, w9, S', ps', e, hr', hb', hl', hg'⟩ := turn_ (v0 := v0) (v3 := some (.int (0 + j))) (v4 := v4) (v5 := v5) (v6 := v6) (v7 := v7) (v8 := v8) (v9 := v9) (v10 := v10) (v11 := v11) hr hb h1 h2 (by omega) hg
    obtain ⟨ρ, S2, e2⟩ := loop_ h1 h2 m (j + 1) (some (.int (0 + j))) w4 w5 w6 w7 w8 w9 v10 v11 S' ps' hr' hb' (by omega) hg'
    refine ⟨ρ, S2, ?_⟩
    show (bodyB (E12 v0 r bf (some (.int (0 + j))) v4 v5 v6 v7 v8 v9 v10 v11) S).bind (fun ρ'' S' => loop (rngI 0 6) (gN 3) bodyB m (j + 1) ρ'' S') = _
    rw [e]
    exact e2
theorem law01 (ns : List Int) : ∃ S, fn17 [.scr ns] [] = .ok (.bl true) S := by
  obtain ⟨ρ, S', e⟩ := loop_ (v0 := some (.scr ns)) (q := 0) (r := 1) (bf := 2) (by decide) (by decide) 6 0 none none none none none none none none none [.lst (ns.map D.int), rowV 0 0 0 7, .lst []] [] ⟨ns, 0, 0, 7, rfl, rfl, by decide, by decide, by decide⟩ rfl (by decide) (fun p hp => by cases hp)
  refine ⟨S', ?_⟩
  unfold fn17
  rw [mk_fn (n := 1) (ds := [D.scr ns]) rfl, fb17_eq]
  have e1 : sSet 1 (mApp fn12 (aCons (mV 0) aNil)) ⟨List.map some [D.scr ns] ++ List.replicate (12 - 1) none, none⟩ [] = .nx ⟨[some (.scr ns), some (.ref 1), none, none, none, none, none, none, none, none, none, none], none⟩ [.lst (ns.map D.int), rowV 0 0 0 7] := by
    simp [sSet, mApp, aCons, aNil, mV, R.bind, R.thn, fn12, mkFn, fb12, sRet, mLst, fList, mC, sizeLine_eq, Env.set, List.replicate]
  have e2 : sSet 2 (mLst aNil) ⟨[some (.scr ns), some (.ref 1), none, none, none, none, none, none, none, none, none, none], none⟩ [.lst (ns.map D.int), rowV 0 0 0 7] = .nx (E12 (some (.scr ns)) 1 2 none none none none none none none none none) [.lst (ns.map D.int), rowV 0 0 0 7, .lst []] := by
    simp [sSet, mLst, aNil, R.bind, R.thn, sizeLine_eq, Env.set, E12]
  have e3 : sFor (itR1 (mC (.int 6))) (gN 3) bodyB (E12 (some (.scr ns)) 1 2 none none none none none none none none none) [.lst (ns.map D.int), rowV 0 0 0 7, .lst []] = .nx ρ S' := by
    have it : itR1 (mC (.int 6)) (E12 (some (.scr ns)) 1 2 none none none none none none none none none) [.lst (ns.map D.int), rowV 0 0 0 7, .lst []] = .ok (rngI 0 6) [.lst (ns.map D.int), rowV 0 0 0 7, .lst []] := by
      simp [itR1, mC, R.bind]
    unfold sFor
    rw [it]
    exact e
  rw [seq_nx e1, seq_nx e2, seq_nx e3]
  rfl
end Mx

set_option maxHeartbeats 0
namespace Mx
open PySem L2 PySem.Spec PyProof.Rows NdefX
theorem facts {w : World} {K : PySem.W.Frag} {h : Heap} {mg : Str → Option Value} {f : Addr} (X : K.In h) (G : h.Ns mainGlobals mg) (hfa : mg ("law" : Str) = some (.ref f)) (c : SaysX Rw.prog fx fn ts w K) :
    ∃ fd : FuncData, (∀ (s : Shared) (v : Value), BindsTo s fd ⟨[v], []⟩ [("_law_script", v)]) ∧ ∀ base : Heap, FnOk Rw.prog w K mg base (L2.CX Rw.prog w) lawR f fd ["_law_script"] (spM K lawFn) := by
  have e : Wd w K mg := ⟨c, h, X, G⟩
  obtain ⟨fd, F⟩ := lawDef c
  have eg := hfa.symm.trans (e.glo (x := "law") lawGlo rfl)
  cases eg
  have b := FunD.bindsA (ps := ["_law_script"]) F fun _ _ _ _ _ _ us hl => match us, hl with | [_], _ => rfl
  exact ⟨fd, fun s v => b s [v] rfl, fun base => lawOk e F⟩
end Mx
open PySem PySem.W PySem.Calls PyProof.Rows
theorem PySem.Challenge.cw_stonesets_k01_boxes_refused_holds : PySem.Challenge.rw_stonesets_k01_boxes_refused.Holds := by
  w_on; o_law
  refine HandSHeadRun.head_any (r := OpenLaw.row PySem.Challenge.rw_stonesets_k01_boxes_refused) (q := view (OpenLaw.row PySem.Challenge.rw_stonesets_k01_boxes_refused).prog [24]) (H := Mx.hk) (ob := Mx.ob) (M := 4000) (loose := Mx.loose) (d := HandSHeadRun.topDef (OpenLaw.row PySem.Challenge.rw_stonesets_k01_boxes_refused).prog 24) (kwd := []) Mx.ob_eq
    (by kernel_rfl) (fun s => by kernel_rfl) Mx.run (by kernel_rfl) (by kernel_rfl) (by kernel_rfl) (by rfl) (by first | assumption | decide +kernel) (by decide +kernel) ⟨rfl, rfl, rfl, rfl, rfl, by decide +kernel⟩ ?hw ?hc
  case hw => w_witness2
  case hc =>
    refine Mx.walk_ofX (l := PySem.Challenge.rw_stonesets_k01_boxes_refused) (n := 63) (k := Mx.lawR) (x := "_law_script") (fn := Mx.lawFn) rfl (by decide) (by kernel_rfl) ⟨rfl, by decide, by decide⟩ Mx.law01 ?F
    intro w mg fa h Y G hmg0
    obtain ⟨K, KX, c⟩ := Y
    have hmg : mg ("law" : PySem.Str) = some (.ref fa) := by
      have e : (HandSHeadRun.topDef (OpenLaw.row PySem.Challenge.rw_stonesets_k01_boxes_refused).prog 24).name = ("law" : PySem.Str) := by kernel_rfl
      rw [← e]
      exact hmg0
    obtain ⟨fd, hb, hF⟩ := Mx.facts (w := w) KX G hmg c
    exact ⟨K, fd, KX, hb, hF⟩

