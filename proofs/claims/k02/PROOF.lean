import PyProof.Rows.All
import Wide.All
import OpenK.AllK
import Wide.FinOn
import HandS.ForMost
import HandS.TupAny
import HandS.TupMul
import HandS.Gcd
import HandS.Conv
import HandS.RaiseMore
import HandS.Wide
import HandS.IsInst
import HandS.Style
import HandS.Rev
import HandS.Zip
import KE.GoesEnum
import HandS.Defaults
import HandS.EndBits
import HandS.HeadHook2
import HandS.Head2
import HandS.Head0
import HandS.Head1
import HandS.HeadEnd
import HandS.HeadHook1
import PySem.Challenge.RW_kroneckerweber_k02_units_and_cyclotomic
set_option Elab.async false
set_option linter.all false
set_option maxRecDepth 100000
set_option maxHeartbeats 4000000
/-! Data as trees, a memory of mutable objects, and what they stand for in the abstract heap. -/
namespace Core
noncomputable section
open PySem PySem.Spec PyProof.Rows L2

/-- data: tuples as trees; fl a list that nobody changes (the script); ref n the n-th object of the memory; shw p the text that repr gives of p -/
inductive D where
  | non | bl (b : Bool) | int (i : Int) | str (x : Str) | tup (ds : List D) | fl (ds : List D) | ref (n : Nat) | shw (p : PyData)
/-- mutable objects: a list, a dict, an instance of class c with its first attributes -/
inductive MO where
  | lst (ds : List D) | dic (kvs : List (D × D)) | ins (c : Nat) (ds : List D)
abbrev Mem := List MO
abbrev Sl := List (Option D)
/-- how an evaluation ends -/
inductive Out (α : Type) where
  | ok (a : α) (m : Mem) | exc (c : Nat) (fs : List D) (m : Mem) | bad
/-! what makes a reckoner look at a value at once; each says nothing -/
def frcI {α : Type} (i : Int) (k : Int → α) : α := match i with
  | .ofNat 0 => k (.ofNat 0)
  | .ofNat (n + 1) => k (.ofNat (n + 1))
  | .negSucc 0 => k (.negSucc 0)
  | .negSucc (n + 1) => k (.negSucc (n + 1))
def frcL {α β : Type} : List α → (List α → β) → β
  | [], k => k []
  | x :: xs, k => frcL xs fun ys => k (x :: ys)
/-- the i-th set, the spine laid -/
def setK {α β : Type} (l : List α) (i : Nat) (v : α) (k : List α → β) : β :=
  List.rec (motive := fun _ => Nat → (List α → β) → β) (fun _ k => k []) (fun x r ih n k => Nat.rec (motive := fun _ => β) (k (v :: r)) (fun n _ => ih n fun ys => k (x :: ys)) n) l i k
theorem setK_eq {α β : Type} (v : α) : ∀ (l : List α) (i : Nat) (k : List α → β), setK l i v k = k (l.set i v)
  | [], _, _ => rfl
  | x :: r, 0, _ => rfl
  | x :: r, n + 1, k => setK_eq v r n fun ys => k (x :: ys)
def nthK {α : Type} (l : List (Option α)) (i : Nat) : Option α :=
  List.rec (motive := fun _ => Nat → Option α) (fun _ => none) (fun x _ ih n => Nat.rec (motive := fun _ => Option α) x (fun n _ => ih n) n) l i
theorem nthK_ok {α : Type} {d : α} : ∀ {l : List (Option α)} {i : Nat}, nthK l i = some d → l[i]? = some (some d)
  | [], _, e => by cases (show (none : Option α) = some d from e)
  | x :: r, 0, e => by
    have e : x = some d := e
    simp [e]
  | x :: r, n + 1, e => by
    have e : nthK r n = some d := e
    simpa using nthK_ok e
def frcD {α : Type} (d : D) (k : D → α) : α := match d with
  | .int i => frcI i fun i => k (.int i)
  | .non => k .non
  | .bl true => k (.bl true)
  | .bl false => k (.bl false)
  | .tup ds => k (.tup ds)
  | .fl ds => k (.fl ds)
  | .str x => k (.str x)
  | .shw p => k (.shw p)
  | .ref n => k (.ref n)
def frcO (o : Out D) : Out D := match o with
  | .ok d m => frcD d fun d => frcL m fun m => .ok d m
  | .exc c fs m => .exc c fs m
  | .bad => .bad
theorem frcI_eq {α : Type} (i : Int) (k : Int → α) : frcI i k = k i := by
  unfold frcI
  split <;> rfl
theorem frcL_eq {α β : Type} : ∀ (l : List α) (k : List α → β), frcL l k = k l
  | [], _ => rfl
  | x :: xs, k => frcL_eq xs fun ys => k (x :: ys)
theorem frcD_eq {α : Type} (d : D) (k : D → α) : frcD d k = k d := by
  cases d with
  | int i => exact frcI_eq i fun i => k (.int i)
  | bl b => cases b <;> rfl
  | _ => rfl
theorem frcO_eq (o : Out D) : frcO o = o := by
  cases o with
  | ok d m =>
    show frcD d (fun d => frcL m fun m => Out.ok d m) = .ok d m
    rw [frcD_eq, frcL_eq]
  | _ => rfl
def bindO {α β : Type} (o : Out α) (k : α → Mem → Out β) : Out β := match o with
  | .ok a m => k a m
  | .exc c fs m => .exc c fs m
  | .bad => .bad

/-- a frozen list -/
def SqF (K : PySem.W.Frag) (H : Hp) (a : Addr) (xs : List V) : Prop :=
  (∃ o, H a = some (.frz o (.lst xs))) ∨
    ∃ (o : Obj) (its : Array Value) (n : Nat), K.lookup a = some o ∧ o.cls = .type "list" ∧ o.dict = none ∧ o.data = .seq its n ∧ its.size ≤ sizeLine ∧ Vals xs its.toList
theorem SqF.sq {K : PySem.W.Frag} {H : Hp} {a : Addr} {xs : List V} (h : SqF K H a xs) : SqL K H a xs := by
  rcases h with ⟨o, h⟩ | h
  · exact .inl (.inr ⟨o, h⟩)
  · exact .inr h

mutual
def Rp (K : PySem.W.Frag) (φ : List Addr) (H : Hp) : D → V → Prop
  | .non, v => v = .non
  | .bl b, v => v = .bl b
  | .int i, v => v = .int i
  | .str x, v => v = .str x
  | .shw p, v => v = .str p.shown
  | .tup ds, v => ∃ a xs, v = .ref a ∧ SqT K H a xs ∧ RpA K φ H ds xs
  | .fl ds, v => ∃ a xs, v = .ref a ∧ SqF K H a xs ∧ RpA K φ H ds xs
  | .ref n, v => ∃ a, φ[n]? = some a ∧ v = .ref a
def RpA (K : PySem.W.Frag) (φ : List Addr) (H : Hp) : List D → List V → Prop
  | [], vs => vs = []
  | d :: ds, vs => ∃ v r, vs = v :: r ∧ Rp K φ H d v ∧ RpA K φ H ds r
end

/-- the program's classes: their addresses, their attributes' names -/
structure Gc where
  K : PySem.W.Frag
  cls : Nat → Addr
  flds : Nat → List Str

/-- keys -/
def keyD : Key → D
  | .inl i => .int i
  | .inr x => .str x
def RKV (K : PySem.W.Frag) (φ : List Addr) (H : Hp) : List (D × D) → List (Key × V) → Prop
  | [], ks => ks = []
  | (k, d) :: r, ks => ∃ key v ks', ks = (key, v) :: ks' ∧ k = keyD key ∧ Rp K φ H d v ∧ RKV K φ H r ks'
def RFl (K : PySem.W.Frag) (φ : List Addr) (H : Hp) : List Str → List D → List (Str × V) → Prop
  | _, [], fs => fs = []
  | [], _ :: _, _ => False
  | n :: ns, d :: ds, fs => ∃ v r, fs = (n, v) :: r ∧ Rp K φ H d v ∧ RFl K φ H ns ds r
def RO (g : Gc) (φ : List Addr) (H : Hp) : MO → Addr → Prop
  | .lst ds, a => ∃ xs, H a = some (.lst xs) ∧ RpA g.K φ H ds xs
  | .dic kvs, a => ∃ ks, H a = some (.dK ks) ∧ RKV g.K φ H kvs ks
  | .ins c ds, a => ∃ dx fs, H a = some (.ins (g.cls c) dx fs) ∧ RFl g.K φ H (g.flds c) ds fs
structure RM (g : Gc) (φ : List Addr) (m : Mem) (H : Hp) : Prop where
  len : φ.length = m.length
  nd : φ.Nodup
  at_ : ∀ (n : Nat) (o : MO) (a : Addr), m[n]? = some o → φ[n]? = some a → RO g φ H o a
structure RL (K : PySem.W.Frag) (φ : List Addr) (H : Hp) (L : Sl) (σ : L2.St) : Prop where
  len : L.length = σ.length
  at_ : ∀ (i : Nat) (d : D), L[i]? = some (some d) → ∃ v, σ[i]? = some (some v) ∧ Rp K φ H d v
/-- what was tracked outside of φ stays, φ grows by new objects -/
structure Ext (φ : List Addr) (H : Hp) (φ' : List Addr) (H' : Hp) : Prop where
  pre : ∃ e, φ' = φ ++ e ∧ ∀ b ∈ e, H b = none
  keep : ∀ a h, H a = some h → a ∉ φ → H' a = some h

section
variable {g : Gc} {K : PySem.W.Frag} {φ φ' φ1 φ2 : List Addr} {H H' H1 H2 : Hp} {m : Mem} {L : Sl} {σ : L2.St}
theorem RM.tracked (r : RM g φ m H) {a : Addr} (ha : a ∈ φ) : ∃ h, H a = some h ∧ ((∃ xs, h = .lst xs) ∨ (∃ ks, h = .dK ks) ∨ ∃ C dx fs, h = .ins C dx fs) := by
  obtain ⟨n, hn, e⟩ := List.getElem_of_mem ha
  have hl : n < m.length := by rw [← r.len]; exact hn
  have e1 : m[n]? = some m[n] := List.getElem?_eq_getElem hl
  have e2 : φ[n]? = some a := by rw [List.getElem?_eq_getElem hn, e]
  have q := r.at_ n _ a e1 e2
  cases h : m[n] with
  | lst ds => rw [h] at q; obtain ⟨xs, q, _⟩ := q; exact ⟨_, q, .inl ⟨_, rfl⟩⟩
  | dic ds => rw [h] at q; obtain ⟨xs, q, _⟩ := q; exact ⟨_, q, .inr (.inl ⟨_, rfl⟩)⟩
  | ins c ds => rw [h] at q; obtain ⟨dx, fs, q, _⟩ := q; exact ⟨_, q, .inr (.inr ⟨_, _, _, rfl⟩)⟩
theorem Ext.refl : Ext φ H φ H := ⟨⟨[], by simp, by simp⟩, fun _ _ h _ => h⟩
theorem Ext.trans (r : RM g φ1 m H1) (x : Ext φ H φ1 H1) (y : Ext φ1 H1 φ2 H2) : Ext φ H φ2 H2 := by
  obtain ⟨e1, rfl, n1⟩ := x.pre
  obtain ⟨e2, rfl, n2⟩ := y.pre
  refine ⟨⟨e1 ++ e2, by rw [List.append_assoc], fun b hb => ?_⟩, fun a h ha hn => ?_⟩
  · rcases List.mem_append.mp hb with hb | hb
    · exact n1 b hb
    · cases q : H b with
      | none => rfl
      | some h =>
        have hb' : b ∉ φ := fun z => by
          obtain ⟨h', q', _⟩ := r.tracked (List.mem_append_left e1 z)
          rw [n2 b hb] at q'; cases q'
        have := x.keep b h q hb'
        rw [n2 b hb] at this
        cases this
  · refine y.keep a h (x.keep a h ha hn) fun z => ?_
    rcases List.mem_append.mp z with z | z
    · exact hn z
    · rw [n1 a z] at ha; cases ha
/-- a new object laid, tracked outside of the memory -/
theorem Ext.laid {p : Addr} {o : HO} (hp : H p = none) : Ext φ H φ (upd H p o) :=
  ⟨⟨[], by simp, by simp⟩, fun a h ha _ => by rw [upd_ne (ne_of_none ha hp)]; exact ha⟩
/-- a new object laid in the memory -/
theorem Ext.laidM {p : Addr} {o : HO} (hp : H p = none) : Ext φ H (φ ++ [p]) (upd H p o) :=
  ⟨⟨[p], rfl, fun b hb => by rw [List.mem_singleton.mp hb]; exact hp⟩, fun a h ha _ => by rw [upd_ne (ne_of_none ha hp)]; exact ha⟩
/-- an object of the memory written -/
theorem Ext.write {a : Addr} {o : HO} (ha : a ∈ φ) : Ext φ H φ (upd H a o) :=
  ⟨⟨[], by simp, by simp⟩, fun b h hb hn => by rw [upd_ne (fun e => hn (by rw [e]; exact ha))]; exact hb⟩

/-- what is read stays -/
def Stays (K : PySem.W.Frag) (φ : List Addr) (H : Hp) (φ' : List Addr) (H' : Hp) : Prop :=
  (∃ e, φ' = φ ++ e) ∧ (∀ a xs, SqT K H a xs → SqT K H' a xs) ∧ ∀ a xs, SqF K H a xs → SqF K H' a xs
theorem Stays.refl : Stays K φ H φ H := ⟨⟨[], by simp⟩, fun _ _ h => h, fun _ _ h => h⟩
mutual
theorem Rp.stays (s : Stays K φ H φ' H') : ∀ (d : D) (v : V), Rp K φ H d v → Rp K φ' H' d v
  | .non, _, h => h
  | .bl _, _, h => h
  | .int _, _, h => h
  | .str _, _, h => h
  | .shw _, _, h => h
  | .tup ds, _, h => by
    obtain ⟨a, xs, e, q, r⟩ := h
    exact ⟨a, xs, e, s.2.1 a xs q, RpA.stays s ds xs r⟩
  | .fl ds, _, h => by
    obtain ⟨a, xs, e, q, r⟩ := h
    exact ⟨a, xs, e, s.2.2 a xs q, RpA.stays s ds xs r⟩
  | .ref n, _, h => by
    obtain ⟨a, q, e⟩ := h
    obtain ⟨⟨e', rfl⟩, _⟩ := s
    refine ⟨a, ?_, e⟩
    have hn := (List.getElem?_eq_some_iff.mp q).1
    rw [List.getElem?_append_left hn]; exact q
theorem RpA.stays (s : Stays K φ H φ' H') : ∀ (ds : List D) (vs : List V), RpA K φ H ds vs → RpA K φ' H' ds vs
  | [], _, h => h
  | d :: ds, _, h => by
    obtain ⟨v, r, e, h1, h2⟩ := h
    exact ⟨v, r, e, Rp.stays s d v h1, RpA.stays s ds r h2⟩
end
theorem RKV.stays (s : Stays K φ H φ' H') : ∀ (kvs : List (D × D)) (ks : List (Key × V)), RKV K φ H kvs ks → RKV K φ' H' kvs ks
  | [], _, h => h
  | (k, d) :: r, _, h => by
    obtain ⟨key, v, ks', e, e2, h1, h2⟩ := h
    exact ⟨key, v, ks', e, e2, Rp.stays s d v h1, RKV.stays s r ks' h2⟩
theorem RFl.stays (s : Stays K φ H φ' H') : ∀ (ns : List Str) (ds : List D) (fs : List (Str × V)), RFl K φ H ns ds fs → RFl K φ' H' ns ds fs
  | [], [], _, h => h
  | _ :: _, [], _, h => h
  | [], _ :: _, _, h => h.elim
  | n :: ns, d :: ds, _, h => by
    obtain ⟨v, r, e, h1, h2⟩ := h
    exact ⟨v, r, e, Rp.stays s d v h1, RFl.stays s ns ds r h2⟩
theorem RO.stays (s : Stays g.K φ H φ' H') {o : MO} {a : Addr} (h : RO g φ H o a) (e : H' a = H a) : RO g φ' H' o a := by
  cases o with
  | lst ds => obtain ⟨xs, h1, h2⟩ := h; exact ⟨xs, e.trans h1, RpA.stays s ds xs h2⟩
  | dic ds => obtain ⟨xs, h1, h2⟩ := h; exact ⟨xs, e.trans h1, RKV.stays s ds xs h2⟩
  | ins c ds => obtain ⟨dx, fs, h1, h2⟩ := h; exact ⟨dx, fs, e.trans h1, RFl.stays s _ ds fs h2⟩
theorem keep_sqT {a : Addr} {xs : List V} (k : ∀ h, (h = .tup xs ∨ ∃ o, h = .frz o (.tup xs)) → H a = some h → H' a = some h) (h : SqT K H a xs) : SqT K H' a xs := by
  rcases h with (h | ⟨o, h⟩) | h
  · exact .inl (.inl (k _ (.inl rfl) h))
  · exact .inl (.inr ⟨o, k _ (.inr ⟨o, rfl⟩) h⟩)
  · exact .inr h
theorem keep_sqF {a : Addr} {xs : List V} (k : ∀ h, (∃ o, h = .frz o (.lst xs)) → H a = some h → H' a = some h) (h : SqF K H a xs) : SqF K H' a xs := by
  rcases h with ⟨o, h⟩ | h
  · exact .inl ⟨o, k _ ⟨o, rfl⟩ h⟩
  · exact .inr h
theorem Ext.stays (r : RM g φ m H) (x : Ext φ H φ' H') : Stays g.K φ H φ' H' := by
  obtain ⟨e, he, _⟩ := x.pre
  refine ⟨⟨e, he⟩, fun a xs h => keep_sqT (fun h q e2 => x.keep a h e2 fun z => ?_) h, fun a xs h => keep_sqF (fun h q e2 => x.keep a h e2 fun z => ?_) h⟩
  · obtain ⟨h', q', w⟩ := r.tracked z
    rw [e2] at q'; cases q'
    rcases w with ⟨_, rfl⟩ | ⟨_, rfl⟩ | ⟨_, _, _, rfl⟩ <;> rcases q with q | ⟨_, q⟩ <;> cases q
  · obtain ⟨h', q', w⟩ := r.tracked z
    rw [e2] at q'; cases q'
    rcases w with ⟨_, rfl⟩ | ⟨_, rfl⟩ | ⟨_, _, _, rfl⟩ <;> obtain ⟨_, q⟩ := q <;> cases q
theorem Rp.ext (r : RM g φ m H) (x : Ext φ H φ' H') {d : D} {v : V} (h : Rp g.K φ H d v) : Rp g.K φ' H' d v := Rp.stays (x.stays r) d v h
theorem RpA.ext (r : RM g φ m H) (x : Ext φ H φ' H') {d : List D} {v : List V} (h : RpA g.K φ H d v) : RpA g.K φ' H' d v := RpA.stays (x.stays r) d v h
theorem RL.ext (r : RM g φ m H) (x : Ext φ H φ' H') (h : RL g.K φ H L σ) : RL g.K φ' H' L σ := ⟨h.len, fun i d e => by
  obtain ⟨v, e1, e2⟩ := h.at_ i d e
  exact ⟨v, e1, e2.ext r x⟩⟩
theorem RL.set {i : Nat} {d : D} {v : V} (h : RL K φ H L σ) (hv : Rp K φ H d v) : RL K φ H (L.set i (some d)) (σ.set i (some v)) := ⟨by simp [h.len], fun j e q => by
  by_cases hj : i = j
  · subst hj
    have hlt : i < L.length := by
      have := (List.getElem?_eq_some_iff.mp q).1
      simpa using this
    rw [List.getElem?_set_self hlt] at q
    cases q
    exact ⟨v, List.getElem?_set_self (by rw [← h.len]; exact hlt), hv⟩
  · rw [List.getElem?_set_ne hj] at q
    rw [List.getElem?_set_ne hj]
    exact h.at_ j e q⟩
/-- the memory where nothing of it was written -/
theorem RM.laid {p : Addr} {o : HO} (r : RM g φ m H) (hp : H p = none) : RM g φ m (upd H p o) := by
  refine ⟨r.len, r.nd, fun n ob a e1 e2 => (r.at_ n ob a e1 e2).stays ((Ext.laid hp).stays r) ?_⟩
  obtain ⟨h, q, _⟩ := r.tracked (List.mem_of_getElem? e2)
  rw [upd_ne (ne_of_none q hp)]
theorem RM.fresh {p : Addr} (r : RM g φ m H) (hp : H p = none) : p ∉ φ := fun z => by
  obtain ⟨h, q, _⟩ := r.tracked z
  rw [hp] at q; cases q
theorem RM.push {p : Addr} {o : HO} {mo : MO} (r : RM g φ m H) (hp : H p = none) (ho : RO g (φ ++ [p]) (upd H p o) mo p) : RM g (φ ++ [p]) (m ++ [mo]) (upd H p o) := by
  have st := (Ext.laidM (o := o) hp).stays r
  refine ⟨by simp [r.len], ?_, fun n ob a e1 e2 => ?_⟩
  · rw [List.nodup_append]
    refine ⟨r.nd, by simp, fun a ha b hb => ?_⟩
    rw [List.mem_singleton.mp hb]
    rintro rfl
    exact r.fresh hp ha
  · by_cases hn : n < m.length
    · rw [List.getElem?_append_left hn] at e1
      rw [List.getElem?_append_left (by rw [r.len]; exact hn)] at e2
      refine (r.at_ n ob a e1 e2).stays st ?_
      obtain ⟨h, q, _⟩ := r.tracked (List.mem_of_getElem? e2)
      rw [upd_ne (ne_of_none q hp)]
    · have hn' : n = m.length := by
        have := (List.getElem?_eq_some_iff.mp e1).1
        simp only [List.length_append, List.length_singleton] at this
        omega
      subst hn'
      rw [List.getElem?_append_right (Nat.le_refl _)] at e1
      rw [List.getElem?_append_right (Nat.le_of_eq r.len)] at e2
      simp [r.len] at e1 e2
      subst e1 e2
      exact ho
theorem RM.write {a : Addr} {o : HO} {mo : MO} {n : Nat} (r : RM g φ m H) (hn : φ[n]? = some a) (ho : RO g φ (upd H a o) mo a) : RM g φ (m.set n mo) (upd H a o) := by
  have st := (Ext.write (H := H) (o := o) (List.mem_of_getElem? hn)).stays r
  refine ⟨by simp [r.len], r.nd, fun k ob b e1 e2 => ?_⟩
  by_cases hk : n = k
  · subst hk
    rw [hn] at e2; cases e2
    have hlt : n < m.length := by rw [← r.len]; exact (List.getElem?_eq_some_iff.mp hn).1
    rw [List.getElem?_set_self hlt] at e1
    cases e1
    exact ho
  · rw [List.getElem?_set_ne hk] at e1
    refine (r.at_ k ob b e1 e2).stays st ?_
    have hab : b ≠ a := fun e => by
      subst e
      obtain ⟨h1, e1'⟩ := List.getElem?_eq_some_iff.mp hn
      obtain ⟨h2, e2'⟩ := List.getElem?_eq_some_iff.mp e2
      exact hk ((List.getElem_inj r.nd).mp (e1'.trans e2'.symm))
    rw [upd_ne hab]
end

/-! ### what is wanted behind an evaluation -/
/-- what is wanted of an exception of class c with attributes fs -/
abbrev EX := Nat → List D → List Addr → Hp → Prop
def KX (g : Gc) (E : EX) (o : Out D) (φ : List Addr) (H : Hp) (Q : VK) : Prop := match o with
  | .ok d m => ∀ φ' H' v, Ext φ H φ' H' → RM g φ' m H' → Rp g.K φ' H' d v → Q v H'
  | .exc c fs m => ∀ φ' H', Ext φ H φ' H' → RM g φ' m H' → E c fs φ' H'
  | .bad => False
def KXs (g : Gc) (E : EX) (o : Out (List D)) (φ : List Addr) (H : Hp) (Q : List V → Hp → Prop) : Prop := match o with
  | .ok d m => ∀ φ' H' v, Ext φ H φ' H' → RM g φ' m H' → RpA g.K φ' H' d v → Q v H'
  | .exc c fs m => ∀ φ' H', Ext φ H φ' H' → RM g φ' m H' → E c fs φ' H'
  | .bad => False
def KXb (g : Gc) (E : EX) (o : Out Bool) (φ : List Addr) (H : Hp) (Q : Bool → Hp → Prop) : Prop := match o with
  | .ok d m => ∀ φ' H', Ext φ H φ' H' → RM g φ' m H' → Q d H'
  | .exc c fs m => ∀ φ' H', Ext φ H φ' H' → RM g φ' m H' → E c fs φ' H'
  | .bad => False
abbrev Ev := Sl → Mem → Out D
abbrev Evs := Sl → Mem → Out (List D)
abbrev Evb := Sl → Mem → Out Bool
def tX (g : Gc) (E : EX) (f : Ev) : TE := fun σ H Q => ∃ φ L m, RL g.K φ H L σ ∧ RM g φ m H ∧ KX g E (f L m) φ H Q
def tXs (g : Gc) (E : EX) (f : Evs) : TA := fun σ H Q => ∃ φ L m, RL g.K φ H L σ ∧ RM g φ m H ∧ KXs g E (f L m) φ H Q
def tXb (g : Gc) (E : EX) (f : Evb) : TT := fun σ H Q => ∃ φ L m, RL g.K φ H L σ ∧ RM g φ m H ∧ KXb g E (f L m) φ H Q
abbrev XP (X : Cx) (g : Gc) (E : EX) (e : Expr) (f : Ev) : Prop := PE X e (tX g E f)
abbrev XPs (X : Cx) (g : Gc) (E : EX) (es : List Expr) (f : Evs) : Prop := PA X es (tXs g E f)
abbrev XPb (X : Cx) (g : Gc) (E : EX) (e : Expr) (f : Evb) : Prop := PT X e (tXb g E f)

theorem PE.weaken {X : Cx} {e : Expr} {t t' : TE} (h : PE X e t) (w : ∀ σ H Q, t' σ H Q → t σ H Q) : PE X e t' := ⟨fun pins s σ H Q I q => h.run pins s σ H Q I (w σ H Q q)⟩
theorem PT.weaken {X : Cx} {e : Expr} {t t' : TT} (h : PT X e t) (w : ∀ σ H Q, t' σ H Q → t σ H Q) : PT X e t' := ⟨fun pins s σ H Q I q => h.run pins s σ H Q I (w σ H Q q)⟩
theorem PA.weaken {X : Cx} {e : List Expr} {t t' : TA} (h : PA X e t) (w : ∀ σ H Q, t' σ H Q → t σ H Q) : PA X e t' := ⟨fun pos pins s σ H Q I q => h.run pos pins s σ H Q I (w σ H Q q)⟩

section
variable {g : Gc} {E : EX} {φ φ' φ1 φ2 : List Addr} {H H' H1 H2 : Hp} {m m' m1 : Mem} {L : Sl} {σ : L2.St}
theorem KX.fr {o : Out D} {Q : VK} (k : KX g E (frcO o) φ H Q) : KX g E o φ H Q := frcO_eq o ▸ k
theorem KX.ok_ {d : D} {v : V} {Q : VK} (k : KX g E (.ok d m') φ H Q) (x : Ext φ H φ' H') (r : RM g φ' m' H') (h : Rp g.K φ' H' d v) : Q v H' := k φ' H' v x r h
/-- later -/
theorem KX.ext {o : Out D} {Q : VK} (r : RM g φ1 m1 H1) (x : Ext φ H φ1 H1) (k : KX g E o φ H Q) : KX g E o φ1 H1 Q := by
  cases o with
  | ok d m => exact fun φ' H' v y r' h => k φ' H' v (x.trans r y) r' h
  | exc c fs m => exact fun φ' H' y r' => k φ' H' (x.trans r y) r'
  | bad => exact k
theorem KXs.ext {o : Out (List D)} {Q : List V → Hp → Prop} (r : RM g φ1 m1 H1) (x : Ext φ H φ1 H1) (k : KXs g E o φ H Q) : KXs g E o φ1 H1 Q := by
  cases o with
  | ok d m => exact fun φ' H' v y r' h => k φ' H' v (x.trans r y) r' h
  | exc c fs m => exact fun φ' H' y r' => k φ' H' (x.trans r y) r'
  | bad => exact k
theorem KXb.ext {o : Out Bool} {Q : Bool → Hp → Prop} (r : RM g φ1 m1 H1) (x : Ext φ H φ1 H1) (k : KXb g E o φ H Q) : KXb g E o φ1 H1 Q := by
  cases o with
  | ok d m => exact fun φ' H' y r' => k φ' H' (x.trans r y) r'
  | exc c fs m => exact fun φ' H' y r' => k φ' H' (x.trans r y) r'
  | bad => exact k
theorem KX.mono {o : Out D} {Q Q' : VK} (k : KX g E o φ H Q) (h : ∀ v H', Q v H' → Q' v H') : KX g E o φ H Q' := by
  cases o with
  | ok d m => exact fun φ' H' v y r' q => h _ _ (k φ' H' v y r' q)
  | exc c fs m => exact k
  | bad => exact k
/-- one behind another -/
theorem KX.bind {o : Out D} {k : D → Mem → Out D} {Q : VK} (h : KX g E (bindO o k) φ H Q) :
    KX g E o φ H (fun v H1 => ∃ d φ1 m1, Ext φ H φ1 H1 ∧ RM g φ1 m1 H1 ∧ Rp g.K φ1 H1 d v ∧ KX g E (k d m1) φ1 H1 Q) := by
  cases o with
  | ok d m => exact fun φ' H' v y r' q => ⟨d, φ', m, y, r', q, KX.ext r' y h⟩
  | exc c fs m => exact h
  | bad => exact h
theorem KX.bindS {o : Out D} {k : D → Mem → Out (List D)} {Q : List V → Hp → Prop} (h : KXs g E (bindO o k) φ H Q) :
    KX g E o φ H (fun v H1 => ∃ d φ1 m1, Ext φ H φ1 H1 ∧ RM g φ1 m1 H1 ∧ Rp g.K φ1 H1 d v ∧ KXs g E (k d m1) φ1 H1 Q) := by
  cases o with
  | ok d m => exact fun φ' H' v y r' q => ⟨d, φ', m, y, r', q, KXs.ext r' y h⟩
  | exc c fs m => exact h
  | bad => exact h
theorem KX.bindB {o : Out D} {k : D → Mem → Out Bool} {Q : Bool → Hp → Prop} (h : KXb g E (bindO o k) φ H Q) :
    KX g E o φ H (fun v H1 => ∃ d φ1 m1, Ext φ H φ1 H1 ∧ RM g φ1 m1 H1 ∧ Rp g.K φ1 H1 d v ∧ KXb g E (k d m1) φ1 H1 Q) := by
  cases o with
  | ok d m => exact fun φ' H' v y r' q => ⟨d, φ', m, y, r', q, KXb.ext r' y h⟩
  | exc c fs m => exact h
  | bad => exact h
theorem KXs.bind {o : Out (List D)} {k : List D → Mem → Out D} {Q : VK} (h : KX g E (bindO o k) φ H Q) :
    KXs g E o φ H (fun v H1 => ∃ d φ1 m1, Ext φ H φ1 H1 ∧ RM g φ1 m1 H1 ∧ RpA g.K φ1 H1 d v ∧ KX g E (k d m1) φ1 H1 Q) := by
  cases o with
  | ok d m => exact fun φ' H' v y r' q => ⟨d, φ', m, y, r', q, KX.ext r' y h⟩
  | exc c fs m => exact h
  | bad => exact h
theorem KXs.bindS {o : Out (List D)} {k : List D → Mem → Out (List D)} {Q : List V → Hp → Prop} (h : KXs g E (bindO o k) φ H Q) :
    KXs g E o φ H (fun v H1 => ∃ d φ1 m1, Ext φ H φ1 H1 ∧ RM g φ1 m1 H1 ∧ RpA g.K φ1 H1 d v ∧ KXs g E (k d m1) φ1 H1 Q) := by
  cases o with
  | ok d m => exact fun φ' H' v y r' q => ⟨d, φ', m, y, r', q, KXs.ext r' y h⟩
  | exc c fs m => exact h
  | bad => exact h
theorem KXb.bind {o : Out Bool} {k : Bool → Mem → Out D} {Q : VK} (h : KX g E (bindO o k) φ H Q) :
    KXb g E o φ H (fun v H1 => ∃ φ1 m1, Ext φ H φ1 H1 ∧ RM g φ1 m1 H1 ∧ KX g E (k v m1) φ1 H1 Q) := by
  cases o with
  | ok d m => exact fun φ' H' y r' => ⟨φ', m, y, r', KX.ext r' y h⟩
  | exc c fs m => exact h
  | bad => exact h
theorem KXb.bindB {o : Out Bool} {k : Bool → Mem → Out Bool} {Q : Bool → Hp → Prop} (h : KXb g E (bindO o k) φ H Q) :
    KXb g E o φ H (fun v H1 => ∃ φ1 m1, Ext φ H φ1 H1 ∧ RM g φ1 m1 H1 ∧ KXb g E (k v m1) φ1 H1 Q) := by
  cases o with
  | ok d m => exact fun φ' H' y r' => ⟨φ', m, y, r', KXb.ext r' y h⟩
  | exc c fs m => exact h
  | bad => exact h

/-! ### new objects -/
theorem KX.tup {ds : List D} {xs : List V} {Q : VK} (r : RM g φ m H) (h : RpA g.K φ H ds xs) (k : KX g E (.ok (.tup ds) m) φ H Q) : ∀ p, H p = none → Q (.ref p) (upd H p (.tup xs)) := fun p hp =>
  k φ _ _ (Ext.laid hp) (r.laid hp) ⟨p, xs, rfl, .inl (.inl upd_same), RpA.ext r (Ext.laid hp) h⟩
theorem KX.lst {ds : List D} {xs : List V} {Q : VK} (r : RM g φ m H) (h : RpA g.K φ H ds xs) (k : KX g E (.ok (.ref m.length) (m ++ [.lst ds])) φ H Q) : ∀ p, H p = none → Q (.ref p) (upd H p (.lst xs)) := fun p hp =>
  k (φ ++ [p]) _ _ (Ext.laidM hp) (r.push hp ⟨xs, upd_same, RpA.ext r (Ext.laidM hp) h⟩) ⟨p, by rw [← r.len]; simp, rfl⟩
theorem KX.setL {n : Nat} {a : Addr} {d : D} {v : V} {ds : List D} {xs : List V} {Q : VK} (r : RM g φ m H) (hn : φ[n]? = some a) (h : RpA g.K φ H ds xs) (hd : Rp g.K φ H d v)
    (k : KX g E (.ok d (m.set n (.lst ds))) φ H Q) : Q v (upd H a (.lst xs)) :=
  have x : Ext φ H φ (upd H a (.lst xs)) := Ext.write (List.mem_of_getElem? hn)
  k φ _ _ x (r.write hn ⟨xs, upd_same, RpA.ext r x h⟩) (hd.ext r x)
theorem RM.lst_at {n : Nat} {ds : List D} (r : RM g φ m H) (e : m[n]? = some (.lst ds)) {v : V} (h : Rp g.K φ H (.ref n) v) : ∃ a xs, v = .ref a ∧ φ[n]? = some a ∧ H a = some (.lst xs) ∧ RpA g.K φ H ds xs := by
  obtain ⟨a, e1, rfl⟩ := h
  obtain ⟨xs, q1, q2⟩ := r.at_ n _ a e e1
  exact ⟨a, xs, rfl, e1, q1, q2⟩
theorem RpA.length {K : PySem.W.Frag} : ∀ {ds : List D} {vs : List V}, RpA K φ H ds vs → ds.length = vs.length
  | [], _, h => by
    obtain rfl := (show _ = [] from h)
    rfl
  | d :: ds, _, h => by
    obtain ⟨v, r, rfl, _, h2⟩ := h
    simp [RpA.length h2]
theorem RpA.append {K : PySem.W.Frag} : ∀ {ds es : List D} {vs us : List V}, RpA K φ H ds vs → RpA K φ H es us → RpA K φ H (ds ++ es) (vs ++ us)
  | [], _, _, _, h, h' => by
    obtain rfl := (show _ = [] from h)
    exact h'
  | d :: ds, _, _, _, h, h' => by
    obtain ⟨v, r, rfl, h1, h2⟩ := h
    exact ⟨v, _, rfl, h1, RpA.append h2 h'⟩
theorem RpA.get {K : PySem.W.Frag} : ∀ {ds : List D} {vs : List V} {i : Nat} {d : D}, RpA K φ H ds vs → ds[i]? = some d → ∃ v, vs[i]? = some v ∧ Rp K φ H d v
  | [], _, _, _, _, e => by simp at e
  | d :: ds, _, 0, _, h, e => by
    obtain ⟨v, r, rfl, h1, h2⟩ := h
    simp at e; subst e
    exact ⟨v, rfl, h1⟩
  | d :: ds, _, i + 1, _, h, e => by
    obtain ⟨v, r, rfl, h1, h2⟩ := h
    obtain ⟨u, q1, q2⟩ := RpA.get (i := i) h2 (by simpa using e)
    exact ⟨u, by simpa using q1, q2⟩
theorem RpA.set {K : PySem.W.Frag} {d : D} {v : V} (hd : Rp K φ H d v) : ∀ {ds : List D} {vs : List V} (i : Nat), RpA K φ H ds vs → RpA K φ H (ds.set i d) (vs.set i v)
  | [], _, _, h => by
    obtain rfl := (show _ = [] from h)
    exact h
  | _ :: _, _, 0, h => by
    obtain ⟨u, r, rfl, h1, h2⟩ := h
    exact ⟨v, r, rfl, hd, h2⟩
  | _ :: _, _, i + 1, h => by
    obtain ⟨u, r, rfl, h1, h2⟩ := h
    exact ⟨u, _, rfl, h1, RpA.set hd i h2⟩
theorem RpA.take {K : PySem.W.Frag} : ∀ {ds : List D} {vs : List V} (i : Nat), RpA K φ H ds vs → RpA K φ H (ds.take i) (vs.take i)
  | [], _, _, h => by
    obtain rfl := (show _ = [] from h)
    simp [RpA]
  | _ :: _, _, 0, h => by simp [RpA]
  | _ :: _, _, i + 1, h => by
    obtain ⟨u, r, rfl, h1, h2⟩ := h
    exact ⟨u, _, rfl, h1, RpA.take i h2⟩
theorem RpA.drop {K : PySem.W.Frag} : ∀ {ds : List D} {vs : List V} (i : Nat), RpA K φ H ds vs → RpA K φ H (ds.drop i) (vs.drop i)
  | [], _, _, h => by
    obtain rfl := (show _ = [] from h)
    simp [RpA]
  | _ :: _, _, 0, h => h
  | _ :: _, _, i + 1, h => by
    obtain ⟨u, r, rfl, h1, h2⟩ := h
    exact RpA.drop i h2
theorem RpA.rep {K : PySem.W.Frag} {ds : List D} {vs : List V} (h : RpA K φ H ds vs) : ∀ k : Nat, RpA K φ H (List.replicate k ds).flatten (List.replicate k vs).flatten
  | 0 => by simp [RpA]
  | k + 1 => by
    rw [List.replicate_succ, List.replicate_succ, List.flatten_cons, List.flatten_cons]
    exact RpA.append h (RpA.rep h k)
theorem RpA.nil_iff {K : PySem.W.Frag} {ds : List D} {vs : List V} (h : RpA K φ H ds vs) : vs = [] ↔ ds = [] := by
  have := RpA.length h
  cases ds <;> cases vs <;> simp_all
end
end
end Core

set_option Elab.async false
set_option linter.all false
set_option maxRecDepth 100000
set_option maxHeartbeats 4000000
/-! Operators by values. -/
namespace Core
noncomputable section
open PySem PySem.Spec PyProof.Rows L2

/-- what the code around must be -/
structure Cok (X : Cx) (g : Gc) (k : Nat) : Prop where
  K : X.K = g.K
  calm : X.calm = true
  room : Room k X.A
  nd : X.N.Nodup

abbrev Op2 := D → D → Mem → Out D
def rD (g : Gc) (E : EX) (o : Op2) : R2 := fun x y H Q => ∃ φ m dx dy, RM g φ m H ∧ Rp g.K φ H dx x ∧ Rp g.K φ H dy y ∧ KX g E (o dx dy m) φ H Q
abbrev OpD (X : Cx) (g : Gc) (E : EX) (f : Value → Value → Sem Value) (o : Op2) : Prop := OpR X f (rD g E o)

def addD : Op2 := fun x y m => match x, y with
  | .int i, .int j => .ok (.int (i + j)) m
  | .str a, .str b => if a.length + b.length ≤ 16777216 then .ok (.str (a ++ b)) m else .bad
  | .tup ds, .tup es => if ds.length + es.length ≤ 16777216 then .ok (.tup (ds ++ es)) m else .bad
  | .ref a, .ref b => match m[a]?, m[b]? with
    | some (.lst ds), some (.lst es) => if ds.length + es.length ≤ 16777216 then .ok (.ref m.length) (m ++ [.lst (ds ++ es)]) else .bad
    | _, _ => .bad
  | _, _ => .bad
def subD : Op2 := fun x y m => match x, y with
  | .int i, .int j => .ok (.int (i - j)) m
  | _, _ => .bad
def mulOk (i j : Int) : Bool := decide (i.natAbs < 18446744073709551616) || decide (j.natAbs < 18446744073709551616) || decide (i.natAbs.log2 + j.natAbs.log2 < 1000000)
def mulD : Op2 := fun x y m => match x, y with
  | .int i, .int j => if mulOk i j then .ok (.int (i * j)) m else .bad
  | .ref a, .int k => match m[a]? with
    | some (.lst ds) => if -9223372036854775808 ≤ k ∧ k < 9223372036854775808 ∧ ds.length * k.toNat ≤ 16777216 then .ok (.ref m.length) (m ++ [.lst (List.replicate k.toNat ds).flatten]) else .bad
    | _ => .bad
  | .tup ds, .int k => if k ≤ 1000 ∧ -1000 ≤ k ∧ ds.length ≤ 1000 then .ok (.tup (List.replicate k.toNat ds).flatten) m else .bad
  | _, _ => .bad
def divOk (j : Int) : Bool := (decide (0 < j) && decide (j.natAbs.log2 < 9000)) || (decide (j ≠ 0) && decide (j.natAbs < 1073741824))
def fdivD : Op2 := fun x y m => match x, y with
  | .int i, .int j => if divOk j then .ok (.int (i.fdiv j)) m else .bad
  | _, _ => .bad
def modD : Op2 := fun x y m => match x, y with
  | .int i, .int j => if j ≠ 0 then .ok (.int (i.fmod j)) m else .bad
  | _, _ => .bad
def powD : Op2 := fun x y m => match x, y with
  | .int i, .int j => if 0 ≤ j ∧ j ≤ 1000000 ∧ i.natAbs < 18446744073709551616 then .ok (.int (i ^ j.toNat)) m else .bad
  | _, _ => .bad

section
variable {X : Cx} {g : Gc} {E : EX} {k : Nat}
theorem pow64n : (2 : Int) ^ 64 = 18446744073709551616 := by decide
theorem pow63n : (2 : Int) ^ 63 = 9223372036854775808 := by decide
theorem mulOk_ok {i j : Int} (h : mulOk i j = true) : IntMulOk i j := by
  unfold mulOk at h
  simp only [Bool.or_eq_true, decide_eq_true_eq] at h
  rcases h with (h | h) | h
  · exact CMul.ok (.inl ⟨by rw [pow64n]; omega, by rw [pow64n]; omega⟩)
  · exact CMul.ok (.inr ⟨by rw [pow64n]; omega, by rw [pow64n]; omega⟩)
  · exact CMulW.ok h
theorem o_sub : OpD X g E (binaryOp .Sub) subD := by
  intro pins s σ H x y v u Q I rx ry h
  obtain ⟨φ, m, dx, dy, hm, hx, hy, hk⟩ := h
  cases dx <;> try exact False.elim hk
  cases dy <;> try exact False.elim hk
  exact op_sub pins s σ H x y v u Q I rx ry ⟨_, _, hx, hy, hk φ H _ Ext.refl hm rfl⟩
theorem o_mulI {i j : Int} {pins : List (Addr × Obj)} {s : Shared} {σ : L2.St} {H : Hp} {v u : Value} {Q : VK} (I : Inv X pins σ H s) (rx : RelV (.int i) v) (ry : RelV (.int j) u) (hc : mulOk i j = true) (q : Q (.int (i * j)) H) :
    wpAny (model X.prog X.w) X.A (binaryOp .Mult v u) (EP X pins σ Q) X.xe s := by
  obtain ⟨t, rfl⟩ := rx
  obtain ⟨t', rfl⟩ := ry
  exact mul_int ⟨.int _, H, I.tok _, ⟨_, rfl⟩, q⟩ (mulOk_ok hc)
theorem o_pow : OpD X g E (binaryOp .Pow) powD := by
  intro pins s σ H x y v u Q I rx ry h
  obtain ⟨φ, m, dx, dy, hm, hx, hy, hk⟩ := h
  cases dx <;> try exact False.elim hk
  cases dy <;> try exact False.elim hk
  rename_i i j
  by_cases hc : 0 ≤ j ∧ j ≤ 1000000 ∧ i.natAbs < 18446744073709551616
  · simp only [powD, if_pos hc] at hk
    exact op_pow pins s σ H x y v u Q I rx ry ⟨i, j, hx, hy, ⟨hc.1, hc.2.1, hc.2.2⟩, hk φ H _ Ext.refl hm rfl⟩
  · simp only [powD, if_neg hc] at hk
    exact hk.elim
theorem o_mod : OpD X g E (binaryOp .Mod) modD := by
  intro pins s σ H x y v u Q I rx ry h
  obtain ⟨φ, m, dx, dy, hm, hx, hy, hk⟩ := h
  cases dx <;> try exact False.elim hk
  cases dy <;> try exact False.elim hk
  rename_i i j
  by_cases hc : j ≠ 0
  · simp only [modD, if_pos hc] at hk
    exact op_modN pins s σ H x y v u Q I rx ry ⟨i, j, hx, hy, hc, hk φ H _ Ext.refl hm rfl⟩
  · simp only [modD, if_neg hc] at hk
    exact hk.elim
theorem o_fdiv : OpD X g E (binaryOp .FloorDiv) fdivD := by
  intro pins s σ H x y v u Q I rx ry h
  obtain ⟨φ, m, dx, dy, hm, hx, hy, hk⟩ := h
  cases dx <;> try exact False.elim hk
  cases dy <;> try exact False.elim hk
  rename_i i j
  by_cases hc : divOk j = true
  · simp only [fdivD, if_pos hc] at hk
    have hq := hk φ H _ Ext.refl hm rfl
    unfold divOk at hc
    simp only [Bool.or_eq_true, Bool.and_eq_true, decide_eq_true_eq] at hc
    rcases hc with hc | hc
    · rw [Int.fdiv_eq_ediv_of_nonneg _ (Int.le_of_lt hc.1)] at hq
      exact op_fdivW pins s σ H x y v u Q I rx ry ⟨i, j, hx, hy, hc, hq⟩
    · exact op_fdivN pins s σ H x y v u Q I rx ry ⟨i, j, hx, hy, hc, hq⟩
  · simp only [fdivD, if_neg hc] at hk
    exact hk.elim
theorem lim_eq : (16777216 : Nat) = sizeLine := sizeLine_eq.symm
theorem o_add (c : Cok X g k) : OpD X g E (binaryOp .Add) addD := by
  intro pins s σ H x y v u Q I rx ry h
  obtain ⟨φ, m, dx, dy, hm, hx, hy, hk⟩ := h
  cases dx <;> try exact False.elim hk
  all_goals cases dy <;> try exact False.elim hk
  · exact op_add pins s σ H x y v u Q I rx ry ⟨_, _, hx, hy, hk φ H _ Ext.refl hm rfl⟩
  · rename_i i j
    by_cases hc : i.length + j.length ≤ 16777216
    · simp only [addD, if_pos hc] at hk
      exact op_add_str pins s σ H x y v u Q I rx ry ⟨_, _, hx, hy, by rw [← lim_eq]; exact hc, hk φ H _ Ext.refl hm rfl⟩
    · simp only [addD, if_neg hc] at hk
      exact hk.elim
  · rename_i ds es
    by_cases hc : ds.length + es.length ≤ 16777216
    · simp only [addD, if_pos hc] at hk
      obtain ⟨a, xs, rfl, h1, h2⟩ := hx
      obtain ⟨b, ys, rfl, h3, h4⟩ := hy
      have cat := op_catA (X := X)
      rw [c.K] at cat
      refine cat pins s σ H _ _ v u Q I rx ry ⟨a, b, xs, ys, rfl, rfl, h1, h3, by rw [← lim_eq, ← h2.length, ← h4.length]; exact hc, fun e => ?_, fun _ e => ?_, fun _ _ => KX.tup hm (h2.append h4) hk⟩
      · obtain rfl := h2.nil_iff.mp e
        exact hk φ H _ Ext.refl hm ⟨b, ys, rfl, h3, h4⟩
      · obtain rfl := h4.nil_iff.mp e
        rw [List.append_nil] at hk
        exact hk φ H _ Ext.refl hm ⟨a, xs, rfl, h1, h2⟩
    · simp only [addD, if_neg hc] at hk
      exact hk.elim
  · rename_i a b
    simp only [addD] at hk
    split at hk
    · rename_i ds es e1 e2
      split at hk
      · rename_i hc
        obtain ⟨p, xs, rfl, n1, q1, r1⟩ := hm.lst_at e1 hx
        obtain ⟨q, ys, rfl, n2, q2, r2⟩ := hm.lst_at e2 hy
        exact op_cat pins s σ H _ _ v u Q I rx ry ⟨p, q, xs, ys, rfl, rfl, q1, q2, by rw [← lim_eq, ← r1.length, ← r2.length]; exact hc, KX.lst hm (r1.append r2) hk⟩
      · exact hk.elim
    · exact hk.elim
end
end
end Core

set_option Elab.async false
set_option linter.all false
set_option maxRecDepth 100000
set_option maxHeartbeats 4000000
/-! Products of tuples and lists; comparisons. -/
namespace Core
noncomputable section
open PySem PySem.Spec PyProof.Rows L2

section
theorem tuple_mul1 (l : Addr) (items : Array Value) (n : Nat) (dd : Option Addr) (sl : Array (Option Value)) (x : Int) (u : Tok) (c0 : (decide (x < -(2 ^ 63)) || decide (x ≥ 2 ^ 63)) = false) (c1 : (items.isEmpty || x == 1) = true) :
    Meets (Builtin.«tuple.__mul__» ⟨[.ref l, .int x u], []⟩) (fun _ R s => s.heap.get? l = some { cls := .type "tuple", dict := dd, data := .seq items n, slots := sl } ∧
      R (.ok (.ret (Value.ref l))) s) :=
  .of_wp fun prog w A R s h => by
    obtain ⟨hp, g, d, t, os⟩ := s
    obtain ⟨hl, h⟩ := h
    have f1 := AutoSeq1.idx_int
    wp_walk using wpAny_loadPart' hl
    repeat (first
      | (refine wpAny_ite_false (decide_eq_false (by rw [c0]; exact Bool.false_ne_true)) ?_; wp_walk using wpAny_loadPart' hl)
      | (refine wpAny_ite_true (decide_eq_true c1) ?_; wp_walk using wpAny_loadPart' hl))
    exact ⟨_, rfl, h⟩
theorem tuple_mul0 (l : Addr) (items : Array Value) (n : Nat) (dd : Option Addr) (sl : Array (Option Value)) (x : Int) (u : Tok) (c0 : (decide (x < -(2 ^ 63)) || decide (x ≥ 2 ^ 63)) = false) (c1 : (items.isEmpty || x == 1) = false) (c2 : (decide (x ≤ 0) || items.isEmpty) = true) :
    Meets (Builtin.«tuple.__mul__» ⟨[.ref l, .int x u], []⟩) (fun _ R s => s.heap.get? l = some { cls := .type "tuple", dict := dd, data := .seq items n, slots := sl } ∧
      R (.ok (.ret (Value.ref s.heap.objs.size))) { s with heap := s.heap.push { cls := Value.type "tuple", data := Data.seq #[] }, toks := s.toks }) :=
  .of_wp fun prog w A R s h => by
    obtain ⟨hp, g, d, t, os⟩ := s
    obtain ⟨hl, h⟩ := h
    have f1 := AutoSeq1.idx_int
    wp_walk using wpAny_loadPart' hl
    repeat (first
      | (refine wpAny_ite_false (decide_eq_false (by rw [c0]; exact Bool.false_ne_true)) ?_; wp_walk using wpAny_loadPart' hl)
      | (refine wpAny_ite_false (decide_eq_false (by rw [c1]; exact Bool.false_ne_true)) ?_; wp_walk using wpAny_loadPart' hl)
      | (refine wpAny_ite_true (decide_eq_true c2) ?_; wp_walk using wpAny_loadPart' hl))
    exact ⟨_, rfl, h⟩
variable {X : Cx} {g : Gc} {E : EX} {k : Nat}
/-- tuple * int, whatever it is -/
theorem mulT {pins : List (Addr × Obj)} {s : Shared} {σ : L2.St} {H : Hp} {l : Addr} {i : Int} {t : Tok} {xs : List V} {Q : VK} (I : Inv X pins σ H s) (hT : SqT X.K H l xs) (h1 : -1000 ≤ i) (h2 : i ≤ 1000) (hz : xs.length ≤ 1000)
    (q0 : (xs = [] ∨ i = 1) → Q (.ref l) H) (q1 : xs ≠ [] → i ≠ 1 → ∀ p, H p = none → Q (.ref p) (upd H p (.tup (List.replicate i.toNat xs).flatten))) :
    wpAny (model X.prog X.w) X.A (binaryOp .Mult (.ref l) (.int i t)) (EP X pins σ Q) X.xe s := by
  by_cases hb : xs ≠ [] ∧ 2 ≤ i
  · exact op_repT pins s σ H (.ref l) (.int i) _ _ Q I rfl ⟨t, rfl⟩ ⟨l, i, xs, rfl, rfl, hT, hb.1, hb.2, h2, hz, q1 hb.1 (by omega)⟩
  obtain ⟨its, r, ⟨⟨cls, dd, data, sl⟩, ho, hc, n, hd⟩, hs⟩ := I.tuple hT
  simp only at hc hd
  subst hc hd
  have c0 : (decide (i < -(2 ^ 63)) || decide (i ≥ 2 ^ 63)) = false := by
    rw [decide_eq_false (by omega), decide_eq_false (by omega)] <;> rfl
  by_cases c1 : (its.toArray.isEmpty || i == 1) = true
  · refine wpAny_binaryOp_repeat_ref (T := "tuple") (U := "int") (by decide) ⟨_, ho, rfl⟩ (fun s' => typeIs_int s' i t) noFill_tuple_mul F.fills_int_mul F.slot_int_rmul repeat_tuple F.slot_int_index.lookup
      (call_meets F.slot_int_rmul (typeIs_int s i t) F.entry_int_rmul (F.args_int_rmul_2 _ _) (int_rmul_tuple i t l its.toArray n dd sl)
        ⟨ho, rfl, ⟨_, ho, rfl⟩, call_meets F.slot_tuple_mul ⟨_, ho, rfl⟩ F.entry_tuple_mul (F.args_tuple_mul_2 _ _) (tuple_mul1 l its.toArray n dd sl i t c0 c1) ⟨ho, ?_⟩⟩)
    refine ⟨.ref l, H, I, rfl, q0 ?_⟩
    simp only [Bool.or_eq_true, beq_iff_eq] at c1
    rcases c1 with c1 | c1
    · have hi : its = [] := by simpa using c1
      subst hi
      cases r
      exact .inl rfl
    · exact .inr c1
  · have c1' := Bool.eq_false_iff.mpr c1
    simp only [Bool.or_eq_true, beq_iff_eq, not_or] at c1
    have hne : xs ≠ [] := fun e => c1.1 (by subst e; cases r; rfl)
    have c2 : (decide (i ≤ 0) || its.toArray.isEmpty) = true := by
      have : i ≤ 0 := by
        have h3 : ¬ (2 ≤ i) := fun z => hb ⟨hne, z⟩
        have h4 := c1.2
        omega
      rw [decide_eq_true this]; rfl
    refine wpAny_binaryOp_repeat_ref (T := "tuple") (U := "int") (by decide) ⟨_, ho, rfl⟩ (fun s' => typeIs_int s' i t) noFill_tuple_mul F.fills_int_mul F.slot_int_rmul repeat_tuple F.slot_int_index.lookup
      (call_meets F.slot_int_rmul (typeIs_int s i t) F.entry_int_rmul (F.args_int_rmul_2 _ _) (int_rmul_tuple i t l its.toArray n dd sl)
        ⟨ho, rfl, ⟨_, ho, rfl⟩, call_meets F.slot_tuple_mul ⟨_, ho, rfl⟩ F.entry_tuple_mul (F.args_tuple_mul_2 _ _) (tuple_mul0 l its.toArray n dd sl i t c0 c1' c2) ⟨ho, ?_⟩⟩)
    have hi0 : i.toNat = 0 := by
      have h3 : ¬ (2 ≤ i) := fun z => hb ⟨hne, z⟩
      have h4 := c1.2
      omega
    have hq := q1 hne c1.2 _ (I.hok.fresh (Nat.le_refl _))
    rw [hi0] at hq
    refine ⟨.ref s.heap.objs.size, _, I.laid (t' := s.toks) (o := .tup []) (fun b ob q => Heap.get?_push_of_some _ q) (Nat.le_refl _) ?_, rfl, hq⟩
    exact ⟨Nat.zero_le _, [], .nil, IsTup.new _ _⟩
theorem o_mul (c : Cok X g k) : OpD X g E (binaryOp .Mult) mulD := by
  intro pins s σ H x y v u Q I rx ry h
  obtain ⟨φ, m, dx, dy, hm, hx, hy, hk⟩ := h
  cases dx <;> try exact False.elim hk
  all_goals cases dy <;> try exact False.elim hk
  · rename_i i j
    obtain rfl := (show x = .int i from hx)
    obtain rfl := (show y = .int j from hy)
    by_cases hc : mulOk i j = true
    · simp only [mulD, if_pos hc] at hk
      exact o_mulI I rx ry hc (hk φ H _ Ext.refl hm rfl)
    · simp only [mulD, if_neg hc] at hk
      exact hk.elim
  · rename_i ds j
    obtain rfl := (show y = .int j from hy)
    obtain ⟨a, xs, rfl, h1, h2⟩ := hx
    by_cases hc : j ≤ 1000 ∧ -1000 ≤ j ∧ ds.length ≤ 1000
    · simp only [mulD, if_pos hc] at hk
      cases rx
      obtain ⟨t, rfl⟩ := ry
      rw [← c.K] at h1
      refine mulT I h1 hc.2.1 hc.1 (by rw [← h2.length]; exact hc.2.2) (fun e => ?_) (fun _ _ => KX.tup hm (h2.rep _) hk)
      rw [c.K] at h1
      refine hk φ H _ Ext.refl hm ⟨a, xs, rfl, h1, ?_⟩
      rcases e with e | e
      · obtain rfl := h2.nil_iff.mp e
        subst e
        have : (List.replicate j.toNat ([] : List D)).flatten = [] := by simp
        rw [this]; exact h2
      · subst e
        show RpA _ _ _ (List.replicate 1 ds).flatten xs
        simpa using h2
    · simp only [mulD, if_neg hc] at hk
      exact hk.elim
  · rename_i a j
    obtain rfl := (show y = .int j from hy)
    simp only [mulD] at hk
    split at hk
    · rename_i ds e1
      split at hk
      · rename_i hc
        obtain ⟨p, xs, rfl, n1, q1, r1⟩ := hm.lst_at e1 hx
        exact op_rep pins s σ H _ _ v u Q I rx ry ⟨p, j, xs, rfl, rfl, q1, by rw [pow63n]; exact hc.1, by rw [pow63n]; exact hc.2.1, by rw [← lim_eq, ← r1.length]; exact hc.2.2, KX.lst hm (r1.rep _) hk⟩
      · exact hk.elim
    · exact hk.elim
end

/-! ### comparisons -/
/-- data as the library's plain data; dicts and instances have none -/
def pyOf (m : Mem) : Nat → D → Option PyData
  | 0, _ => none
  | _ + 1, .non => some .none
  | _ + 1, .bl b => some (.bool b)
  | _ + 1, .int i => some (.int i)
  | _ + 1, .str x => some (.str x)
  | _ + 1, .shw p => some (.str p.shown)
  | k + 1, .tup ds => (ds.mapM (pyOf m k)).map .tuple
  | k + 1, .fl ds => (ds.mapM (pyOf m k)).map .list
  | k + 1, .ref n => match m[n]? with
    | some (.lst ds) => (ds.mapM (pyOf m k)).map .list
    | _ => none
mutual
/-- alike, down to the kinds -/
def sameP : PyData → PyData → Bool
  | .none, .none => true
  | .bool a, .bool b => a == b
  | .int i, .int j => i == j
  | .str x, .str y => decide (x = y)
  | .list xs, .list ys => sameA xs ys
  | .tuple xs, .tuple ys => sameA xs ys
  | _, _ => false
def sameA : List PyData → List PyData → Bool
  | [], [] => true
  | x :: xs, y :: ys => sameP x y && sameA xs ys
  | _, _ => false
end
mutual
theorem sameP_eq : ∀ (p q : PyData), sameP p q = true → p = q
  | .none, q, h => by cases q <;> first | rfl | simp [sameP] at h
  | .bool a, q, h => by cases q <;> simp [sameP] at h; rw [h]
  | .int a, q, h => by cases q <;> simp [sameP] at h; rw [h]
  | .str a, q, h => by cases q <;> simp [sameP] at h; rw [h]
  | .list xs, q, h => by cases q <;> simp [sameP] at h; rw [sameA_eq xs _ h]
  | .tuple xs, q, h => by cases q <;> simp [sameP] at h; rw [sameA_eq xs _ h]
  | .dict _, q, h => by cases q <;> simp [sameP] at h
theorem sameA_eq : ∀ (p q : List PyData), sameA p q = true → p = q
  | [], q, h => by cases q <;> first | rfl | simp [sameA] at h
  | x :: xs, q, h => by
    cases q with
    | nil => simp [sameA] at h
    | cons y ys =>
      simp only [sameA, Bool.and_eq_true] at h
      rw [sameP_eq x y h.1, sameA_eq xs ys h.2]
end
def eqG (m : Mem) (x y : D) : Option Bool := match pyOf m 40 x, pyOf m 40 y with
  | some a, some b => if SeqAt.shaped a && SeqAt.shaped b then some (PyData.eqv a b) else none
  | _, _ => none
def eqB (m : Mem) (x y : D) : Option Bool := match x, y with
  | .shw p, .shw q => if sameP p q then some true else none
  | .int i, .int j => some (i == j)
  | .str a, .str b => some (decide (a = b))
  | .non, .non => some true
  | .bl a, .bl b => some (a == b)
  | .int _, .str _ => some false
  | .str _, .int _ => some false
  | .int _, .non => some false
  | .non, .int _ => some false
  | .str _, .non => some false
  | .non, .str _ => some false
  | _, _ => eqG m x y
def eqD : Op2 := fun x y m => match eqB m x y with
  | some b => .ok (.bl b) m
  | none => .bad
def neD : Op2 := fun x y m => match eqB m x y with
  | some b => .ok (.bl (!b)) m
  | none => .bad
def cmpD (f : Int → Int → Bool) : Op2 := fun x y m => match x, y with
  | .int i, .int j => .ok (.bl (f i j)) m
  | _, _ => .bad
def ltD : Op2 := cmpD fun i j => decide (i < j)
def leD : Op2 := cmpD fun i j => decide (i ≤ j)
def gtD : Op2 := cmpD fun i j => decide (j < i)
def geD : Op2 := cmpD fun i j => decide (j ≤ i)
def isND : Op2 := fun x y m => match x, y with
  | .non, .non => .ok (.bl true) m
  | .bl _, .non => .ok (.bl false) m
  | .int _, .non => .ok (.bl false) m
  | .str _, .non => .ok (.bl false) m
  | .shw _, .non => .ok (.bl false) m
  | .tup _, .non => .ok (.bl false) m
  | .fl _, .non => .ok (.bl false) m
  | .ref _, .non => .ok (.bl false) m
  | _, _ => .bad
def notND : Op2 := fun x y m => bindO (isND x y m) fun d m => match d with
  | .bl b => .ok (.bl (!b)) m
  | _ => .bad

section
variable {X : Cx} {g : Gc} {E : EX} {k : Nat} {φ : List Addr} {m : Mem} {H : Hp}
theorem py_all (f : D → Option PyData) (R : ∀ (d : D) (p : PyData) (v : V), f d = some p → Rp g.K φ H d v → Dp g.K H v p) : ∀ (ds : List D) (ps : List PyData) (vs : List V), ds.mapM f = some ps → RpA g.K φ H ds vs → DpAll g.K H vs ps
  | [], ps, vs, e, h => by
    obtain rfl := (show vs = [] from h)
    simp at e
    subst e
    exact .nil
  | d :: ds, ps, vs, e, h => by
    obtain ⟨v, r, rfl, h1, h2⟩ := h
    rw [List.mapM_cons] at e
    cases e1 : f d with
    | none => rw [e1] at e; cases e
    | some p =>
      rw [e1] at e
      cases e2 : ds.mapM f with
      | none => rw [e2] at e; cases e
      | some qs =>
        rw [e2] at e
        cases e
        exact .cons (R d p v e1 h1) (py_all f R ds qs r e2 h2)
theorem py_dp (hm : RM g φ m H) : ∀ (n : Nat) (d : D) (p : PyData) (v : V), pyOf m n d = some p → Rp g.K φ H d v → Dp g.K H v p
  | 0, _, _, _, e, _ => by cases e
  | n + 1, d, p, v, e, h => by
    cases d with
    | non => cases e; cases (show v = .non from h); exact .non
    | bl b => cases e; cases (show v = .bl b from h); exact .bl b
    | int i => cases e; cases (show v = .int i from h); exact .int i
    | str x => cases e; cases (show v = .str x from h); exact .str x
    | shw q => cases e; cases (show v = .str q.shown from h); exact .str _
    | tup ds =>
      obtain ⟨a, xs, rfl, h1, h2⟩ := h
      obtain ⟨ps, e1, rfl⟩ := Option.map_eq_some_iff.mp (show (ds.mapM (pyOf m n)).map PyData.tuple = some p from e)
      exact .tup h1 (py_all _ (py_dp hm n) ds ps xs e1 h2)
    | fl ds =>
      obtain ⟨a, xs, rfl, h1, h2⟩ := h
      obtain ⟨ps, e1, rfl⟩ := Option.map_eq_some_iff.mp (show (ds.mapM (pyOf m n)).map PyData.list = some p from e)
      exact .lst h1.sq (py_all _ (py_dp hm n) ds ps xs e1 h2)
    | ref r =>
      simp only [pyOf] at e
      split at e
      · rename_i ds e0
        obtain ⟨a, xs, rfl, n1, q1, r1⟩ := hm.lst_at e0 h
        obtain ⟨ps, e1, rfl⟩ := Option.map_eq_some_iff.mp e
        exact .lst (SqL.of q1) (py_all _ (py_dp hm n) ds ps xs e1 r1)
      · cases e
theorem eq_go (c : Cok X g k) {op : CmpOp} {f : Bool → Bool} (hop : op = .Eq ∧ f = id ∨ op = .NotEq ∧ f = not) {pins : List (Addr × Obj)} {s : Shared} {σ : L2.St} {x y : V} {v u : Value} {dx dy : D} {b : Bool} {Q : VK} (I : Inv X pins σ H s) (rx : RelV x v) (ry : RelV y u)
    (hm : RM g φ m H) (hx : Rp g.K φ H dx x) (hy : Rp g.K φ H dy y) (e : eqB m dx dy = some b) (q : Q (.bl (f b)) H) : wpAny (model X.prog X.w) X.A (compareOp op v u) (EP X pins σ Q) X.xe s := by
  have gen : eqG m dx dy = some b → wpAny (model X.prog X.w) X.A (compareOp op v u) (EP X pins σ Q) X.xe s := fun e => by
    unfold eqG at e
    split at e
    · rename_i a b' e1 e2
      split at e
      · rename_i hs
        rw [Bool.and_eq_true] at hs
        cases e
        have d1 := py_dp hm 40 dx a x e1 hx
        have d2 := py_dp hm 40 dy b' y e2 hy
        rw [← c.K] at d1 d2
        have hu : X.A.units + 64 < cLine := c.room.units
        rcases hop with ⟨rfl, rfl⟩ | ⟨rfl, rfl⟩
        · exact op_eqD hu pins s σ H x y v u Q I rx ry ⟨a, b', d1, d2, hs.1, hs.2, q⟩
        · exact op_neD hu pins s σ H x y v u Q I rx ry ⟨a, b', d1, d2, hs.1, hs.2, q⟩
      · cases e
    · cases e
  have flat : ∀ b', scal x y = true → decide (x = y) = b' → some b' = some b → wpAny (model X.prog X.w) X.A (compareOp op v u) (EP X pins σ Q) X.xe s := fun b' hs hd e => by
    cases e
    rcases hop with ⟨rfl, rfl⟩ | ⟨rfl, rfl⟩
    · exact op_eq pins s σ H x y v u Q I rx ry ⟨hs, by rw [hd]; exact q⟩
    · exact op_ne pins s σ H x y v u Q I rx ry ⟨hs, by rw [hd]; exact q⟩
  cases dx with
  | non =>
    cases (show x = .non from hx)
    cases dy with
    | non => cases (show y = .non from hy); exact flat true rfl rfl e
    | int j => cases (show y = .int j from hy); exact flat false rfl rfl e
    | str j => cases (show y = .str j from hy); exact flat false rfl rfl e
    | _ => exact gen e
  | bl a =>
    cases (show x = .bl a from hx)
    cases dy with
    | bl j => cases (show y = .bl j from hy); exact flat (a == j) rfl dec_bl e
    | _ => exact gen e
  | int a =>
    cases (show x = .int a from hx)
    cases dy with
    | non => cases (show y = .non from hy); exact flat false rfl rfl e
    | int j => cases (show y = .int j from hy); exact flat (a == j) rfl dec_int e
    | str j => cases (show y = .str j from hy); exact flat false rfl rfl e
    | _ => exact gen e
  | str a =>
    cases (show x = .str a from hx)
    cases dy with
    | non => cases (show y = .non from hy); exact flat false rfl rfl e
    | int j => cases (show y = .int j from hy); exact flat false rfl rfl e
    | str j => cases (show y = .str j from hy); exact flat (decide (a = j)) rfl (by simp) e
    | _ => exact gen e
  | shw p =>
    cases dy with
    | shw p' =>
      cases (show x = .str p.shown from hx)
      cases (show y = .str p'.shown from hy)
      have e0 : (if sameP p p' then some true else none) = some b := e
      by_cases hs : sameP p p' = true
      · rw [if_pos hs] at e0
        obtain rfl := sameP_eq p p' hs
        exact flat true rfl (by simp) e0
      · rw [if_neg hs] at e0; cases e0
    | _ => exact gen e
  | _ => exact gen e
theorem o_eq (c : Cok X g k) : OpD X g E (compareOp .Eq) eqD := by
  intro pins s σ H x y v u Q I rx ry h
  obtain ⟨φ, m, dx, dy, hm, hx, hy, hk⟩ := h
  unfold eqD at hk
  split at hk
  · rename_i b e
    exact eq_go c (f := id) (.inl ⟨rfl, rfl⟩) I rx ry hm hx hy e (hk φ H _ Ext.refl hm rfl)
  · exact hk.elim
theorem o_ne (c : Cok X g k) : OpD X g E (compareOp .NotEq) neD := by
  intro pins s σ H x y v u Q I rx ry h
  obtain ⟨φ, m, dx, dy, hm, hx, hy, hk⟩ := h
  unfold neD at hk
  split at hk
  · rename_i b e
    exact eq_go c (f := not) (.inr ⟨rfl, rfl⟩) I rx ry hm hx hy e (hk φ H _ Ext.refl hm rfl)
  · exact hk.elim
theorem o_cmp {op : CmpOp} {f : Int → Int → Bool} (ho : OpR X (compareOp op) (rI0 fun i j => .bl (f i j))) : OpD X g E (compareOp op) (cmpD f) := by
  intro pins s σ H x y v u Q I rx ry h
  obtain ⟨φ, m, dx, dy, hm, hx, hy, hk⟩ := h
  cases dx <;> try exact False.elim hk
  cases dy <;> try exact False.elim hk
  exact ho pins s σ H x y v u Q I rx ry ⟨_, _, hx, hy, hk φ H _ Ext.refl hm rfl⟩
theorem o_lt : OpD X g E (compareOp .Lt) ltD := o_cmp op_lt
theorem o_le : OpD X g E (compareOp .LtE) leD := o_cmp op_le
theorem o_gt : OpD X g E (compareOp .Gt) gtD := o_cmp op_gt
theorem o_ge : OpD X g E (compareOp .GtE) geD := o_cmp op_ge
theorem isn_v {d : D} {x : V} {b : Bool} (e : isND d .non m = .ok (.bl b) m) (h : Rp g.K φ H d x) : decide (x = .non) = b := by
  cases d with
  | non => cases (show x = .non from h); cases e; rfl
  | bl _ => cases (show x = .bl _ from h); cases e; rfl
  | int _ => cases (show x = .int _ from h); cases e; rfl
  | str _ => cases (show x = .str _ from h); cases e; rfl
  | shw _ => cases (show x = .str _ from h); cases e; rfl
  | tup _ => obtain ⟨a, xs, rfl, _⟩ := h; cases e; rfl
  | fl _ => obtain ⟨a, xs, rfl, _⟩ := h; cases e; rfl
  | ref _ => obtain ⟨a, _, rfl⟩ := h; cases e; rfl
theorem isn_ok (d : D) : ∃ b, isND d .non m = .ok (.bl b) m := by cases d <;> exact ⟨_, rfl⟩
theorem o_is : OpD X g E (compareOp .Is) isND := by
  intro pins s σ H x y v u Q I rx ry h
  obtain ⟨φ, m, dx, dy, hm, hx, hy, hk⟩ := h
  cases dy <;> try (cases dx <;> exact False.elim hk)
  obtain ⟨b, e⟩ := isn_ok (m := m) dx
  rw [e] at hk
  refine op_isN pins s σ H x y v u Q I rx ry ⟨hy, ?_⟩
  rw [isn_v e hx]
  exact hk φ H _ Ext.refl hm rfl
theorem o_isnot : OpD X g E (compareOp .IsNot) notND := by
  intro pins s σ H x y v u Q I rx ry h
  obtain ⟨φ, m, dx, dy, hm, hx, hy, hk⟩ := h
  cases dy <;> try (cases dx <;> exact False.elim hk)
  obtain ⟨b, e⟩ := isn_ok (m := m) dx
  unfold notND at hk
  rw [e] at hk
  refine op_notN pins s σ H x y v u Q I rx ry ⟨hy, ?_⟩
  rw [isn_v e hx]
  exact hk φ H _ Ext.refl hm rfl
end
end
end Core

set_option Elab.async false
set_option linter.all false
set_option maxRecDepth 100000
set_option maxHeartbeats 4000000
/-! Truth, one-place operators, built-in calls, subscripts by values. -/
namespace Core
noncomputable section
open PySem PySem.Spec PyProof.Rows L2

abbrev Fn1 := List D → Mem → Out D
def rC (g : Gc) (E : EX) (o : Fn1) : List V → Hp → VK → Prop := fun xs H Q => ∃ φ m ds, RM g φ m H ∧ RpA g.K φ H ds xs ∧ KX g E (o ds m) φ H Q
abbrev CallD (X : Cx) (g : Gc) (E : EX) (f : Value) (o : Fn1) : Prop := CallR X f (rC g E o)

def truB (m : Mem) : D → Option Bool
  | .non => some false
  | .bl b => some b
  | .int i => some (i != 0)
  | .str y => if y.length ≤ 16777216 then some ((y.length : Int) != 0) else none
  | .shw _ => none
  | .tup ds => some (!ds.isEmpty)
  | .fl ds => some (!ds.isEmpty)
  | .ref n => match m[n]? with
    | some (.lst ds) => some (!ds.isEmpty)
    | some (.dic kvs) => some (!kvs.isEmpty)
    | _ => none
def truO (d : D) (m : Mem) : Out Bool := match truB m d with
  | some b => .ok b m
  | none => .bad

def atD (ds : List D) (i : Int) : Option D := (ixN ds.length i).bind fun j => ds[j]?
def ixD : Op2 := fun x y m => match x, y with
  | .tup ds, .int i => match atD ds i with | some d => .ok d m | none => .bad
  | .fl ds, .int i => match atD ds i with | some d => .ok d m | none => .bad
  | .str z, .int i => if z.length ≤ 16777216 then match atI z.cps.toList i with | some c => .ok (.str ⟨#[c]⟩) m | none => .bad else .bad
  | .ref n, .int i => match m[n]? with
    | some (.lst ds) => match atD ds i with | some d => .ok d m | none => .bad
    | _ => .bad
  | _, _ => .bad
def cutD (xs : List D) (lo hi : Option Int) : List D := (xs.drop (HT.sIx xs.length 0 lo)).take (HT.sIx xs.length xs.length hi - HT.sIx xs.length 0 lo)
def slD (x : D) (lo hi : Option Int) (m : Mem) : Out D := match x with
  | .tup ds => .ok (.tup (cutD ds lo hi)) m
  | .fl ds => .ok (.ref m.length) (m ++ [.lst (cutD ds lo hi)])
  | .ref n => match m[n]? with
    | some (.lst ds) => .ok (.ref m.length) (m ++ [.lst (cutD ds lo hi)])
    | _ => .bad
  | _ => .bad
def lenD : Fn1 := fun ds m => match ds with
  | [.tup xs] => .ok (.int xs.length) m
  | [.fl xs] => .ok (.int xs.length) m
  | [.str z] => if z.length ≤ 16777216 then .ok (.int z.length) m else .bad
  | [.ref n] => match m[n]? with
    | some (.lst xs) => .ok (.int xs.length) m
    | _ => .bad
  | _ => .bad
def tupD : Fn1 := fun ds m => match ds with
  | [.tup xs] => .ok (.tup xs) m
  | [.fl xs] => .ok (.tup xs) m
  | [.ref n] => match m[n]? with
    | some (.lst xs) => .ok (.tup xs) m
    | _ => .bad
  | _ => .bad
def lstD : Fn1 := fun ds m => match ds with
  | [.tup xs] => .ok (.ref m.length) (m ++ [.lst xs])
  | [.fl xs] => .ok (.ref m.length) (m ++ [.lst xs])
  | [.ref n] => match m[n]? with
    | some (.lst xs) => .ok (.ref m.length) (m ++ [.lst xs])
    | _ => .bad
  | _ => .bad
def intD : Fn1 := fun ds m => match ds with
  | [.int i] => .ok (.int i) m
  | [.bl b] => .ok (.int (if b then 1 else 0)) m
  | _ => .bad
def absD : Fn1 := fun ds m => match ds with
  | [.int i] => .ok (.int (if i < 0 then -i else i)) m
  | _ => .bad
def maxD : Fn1 := fun ds m => match ds with
  | [.int i, .int j] => .ok (.int (if j > i then j else i)) m
  | _ => .bad
def minD : Fn1 := fun ds m => match ds with
  | [.int i, .int j] => .ok (.int (if j < i then j else i)) m
  | _ => .bad
def gcdD : Fn1 := fun ds m => match ds with
  | [.int i, .int j] => .ok (.int ((Nat.gcd i.natAbs j.natAbs : Nat) : Int)) m
  | _ => .bad
mutual
/-- no less than the text's length -/
def bdP : PyData → Nat
  | .none => 4
  | .bool _ => 5
  | .int i => i.natAbs.log2 + 3
  | .str x => (PyData.shown (.str x)).length
  | .list xs => bdA xs + 2
  | .tuple xs => bdA xs + 3
  | .dict kvs => (PyData.shown (.dict kvs)).length
def bdA : List PyData → Nat
  | [] => 0
  | x :: xs => bdP x + 2 + bdA xs
end
theorem textFrom_up : ∀ (ts : List Str) (k : Nat) (acc : Str), (textFrom k acc ts).length ≤ acc.length + piled ts
  | [], _, acc => Nat.le_add_right _ _
  | t :: r, k, acc => by
    have h := textFrom_up r (k + 1) (acc ++ (if k > 0 then ", " else "" : String) ++ t)
    have e : (acc ++ (if k > 0 then ", " else "" : String) ++ t).length ≤ acc.length + 2 + t.length := by
      rw [strLen_append, strLen_append]
      split
      · exact Nat.le_refl _
      · exact Nat.add_le_add_right (Nat.add_le_add_left (Nat.zero_le 2) _) _
    rw [piled_cons]
    show (textFrom (k + 1) _ r).length ≤ _
    omega
theorem tupT_up (ts : List Str) : (tupleText ts).length ≤ piled ts + 3 := by
  unfold tupleText
  rw [strLen_append, strLen_append]
  have e1 : ((("(" : String) : Str)).length = 1 := rfl
  have e3 : (((if ts.length == 1 then ",)" else ")" : String) : Str)).length ≤ 2 := by split <;> decide
  rw [e1]
  by_cases h : ts = []
  · subst h
    have : (Str.join ", " ([] : List Str)).length = 0 := rfl
    omega
  · have := join_length_add ts h
    omega
theorem lstT_up (ts : List Str) : (listText ts).length ≤ piled ts + 2 := by
  unfold listText
  have h := textFrom_up ts 0 ("[" : String)
  have e1 : ((("[" : String) : Str)).length = 1 := rfl
  have e2 : ((("]" : String) : Str)).length = 1 := rfl
  rw [strLen_append, e2]
  omega
theorem int_up (i : Int) : (PyData.shown (.int i)).length ≤ i.natAbs.log2 + 3 := by
  have h := int_text_length_le (a := i) (k := i.natAbs.log2 + 1) (Nat.succ_pos _) (Nat.lt_succ_self _)
  show (Str.ofString (toString i)).length ≤ _
  rw [PySem.ofString_length]
  omega
mutual
theorem shown_up : ∀ p : PyData, p.shown.length ≤ bdP p
  | .none => by decide
  | .bool b => by cases b <;> decide
  | .int i => int_up i
  | .str x => Nat.le_refl _
  | .dict _ => Nat.le_refl _
  | .list xs => Nat.le_trans (lstT_up _) (by show _ ≤ bdA xs + 2; have := shownAll_up xs; omega)
  | .tuple xs => Nat.le_trans (tupT_up _) (by show _ ≤ bdA xs + 3; have := shownAll_up xs; omega)
theorem shownAll_up : ∀ xs : List PyData, piled (PyData.shownAll xs) ≤ bdA xs
  | [] => Nat.le_refl _
  | x :: xs => by
    show piled (PyData.shown x :: PyData.shownAll xs) ≤ bdP x + 2 + bdA xs
    rw [piled_cons]
    have h1 := shown_up x
    have h2 := shownAll_up xs
    omega
end
def reprD : Fn1 := fun ds m => match ds with
  | [d] => match pyOf m 40 d with
    | some p => if p.showable && decide (bdP p ≤ 16777216) then .ok (.shw p) m else .bad
    | none => .bad
  | _ => .bad

section
variable {X : Cx} {g : Gc} {E : EX} {k : Nat} {φ : List Addr} {m : Mem} {H : Hp}
theorem SqF.seq {K : PySem.W.Frag} {a : Addr} {xs : List V} (h : SqF K H a xs) : SqL K H a xs := h.sq
theorem tru_v (c : Cok X g k) (hm : RM g φ m H) : ∀ {d : D} {v : V} {b : Bool}, truB m d = some b → Rp g.K φ H d v → TruV X.K v H b := by
  intro d v b e h
  cases d with
  | non => cases (show v = .non from h); cases e; rfl
  | bl _ => cases (show v = .bl _ from h); cases e; rfl
  | int _ => cases (show v = .int _ from h); cases e; rfl
  | shw _ => cases e
  | str y =>
    cases (show v = .str _ from h)
    simp only [truB] at e
    split at e
    · rename_i hz
      cases e
      exact ⟨by rw [← lim_eq]; exact hz, rfl⟩
    · cases e
  | tup ds =>
    obtain ⟨a, xs, rfl, h1, h2⟩ := h
    cases e
    rw [← c.K] at h1
    refine .inr (.inl ⟨xs, h1, ?_⟩)
    have := h2.length
    cases ds <;> cases xs <;> simp_all
  | fl ds =>
    obtain ⟨a, xs, rfl, h1, h2⟩ := h
    cases e
    rw [← c.K] at h1
    refine .inl ⟨xs, h1.sq, ?_⟩
    have := h2.length
    cases ds <;> cases xs <;> simp_all
  | ref n =>
    obtain ⟨a, n1, rfl⟩ := h
    simp only [truB] at e
    split at e
    · rename_i ds e1
      cases e
      obtain ⟨xs, q1, r1⟩ := hm.at_ n _ a e1 n1
      refine .inl ⟨xs, SqL.of q1, ?_⟩
      have := r1.length
      cases ds <;> cases xs <;> simp_all
    · rename_i ds e1
      cases e
      obtain ⟨xs, q1, r1⟩ := hm.at_ n _ a e1 n1
      refine .inr (.inr ⟨xs, q1, ?_⟩)
      cases ds with
      | nil =>
        obtain rfl := (show xs = [] from r1)
        rfl
      | cons p r => obtain ⟨key, v, ks', rfl, _⟩ := r1; rfl
    · cases e
theorem x_tru (c : Cok X g k) {e : Expr} {f : Ev} (he : XP X g E e f) (hw : ∀ whole, isTrue e X.env whole = (do let v ← whole; standAt e.pos; holding [v] (truthy v)) := by intro _; rfl) :
    XPb X g E e (fun L m => bindO (f L m) truO) := by
  refine PT.weaken (pt_truth he hw) fun σ H Q ⟨φ, L, m, hl, hm, hk⟩ => ⟨φ, L, m, hl, hm, KX.mono (KX.bindB hk) fun v H1 ⟨d, φ1, m1, ex, hm1, hd, hk1⟩ => ?_⟩
  unfold truO at hk1
  split at hk1
  · rename_i b e1
    exact ⟨b, tru_v c hm1 e1 hd, hk1 φ1 H1 Ext.refl hm1⟩
  · exact hk1.elim

theorem RpA.one {K : PySem.W.Frag} {d : D} {xs : List V} (h : RpA K φ H [d] xs) : ∃ v, xs = [v] ∧ Rp K φ H d v := by
  obtain ⟨v, r, rfl, h1, h2⟩ := h
  obtain rfl := (show r = [] from h2)
  exact ⟨v, rfl, h1⟩
theorem RpA.two {K : PySem.W.Frag} {d e : D} {xs : List V} (h : RpA K φ H [d, e] xs) : ∃ v u, xs = [v, u] ∧ Rp K φ H d v ∧ Rp K φ H e u := by
  obtain ⟨v, r, rfl, h1, h2⟩ := h
  obtain ⟨u, rfl, h3⟩ := h2.one
  exact ⟨v, u, rfl, h1, h3⟩
theorem c_len (c : Cok X g k) : CallD X g E (.builtin "len") lenD := by
  intro pins s σ H xs us Q I rx h
  obtain ⟨φ, m, ds, hm, hx, hk⟩ := h
  unfold lenD at hk
  have ls := call_len_seq (X := X)
  rw [c.K] at ls
  split at hk
  · obtain ⟨v, rfl, hv⟩ := hx.one
    obtain ⟨a, ys, rfl, h1, h2⟩ := hv
    exact ls pins s σ H _ us Q I rx ⟨a, ys, rfl, .inr h1, by rw [← h2.length]; exact hk φ H _ Ext.refl hm rfl⟩
  · obtain ⟨v, rfl, hv⟩ := hx.one
    obtain ⟨a, ys, rfl, h1, h2⟩ := hv
    exact ls pins s σ H _ us Q I rx ⟨a, ys, rfl, .inl h1.sq, by rw [← h2.length]; exact hk φ H _ Ext.refl hm rfl⟩
  · obtain ⟨v, rfl, hv⟩ := hx.one
    cases (show v = .str _ from hv)
    split at hk
    · rename_i hz
      exact call_len_str pins s σ H _ us Q I rx ⟨_, rfl, by rw [← lim_eq]; exact hz, hk φ H _ Ext.refl hm rfl⟩
    · exact hk.elim
  · obtain ⟨v, rfl, hv⟩ := hx.one
    split at hk
    · rename_i e1
      obtain ⟨a, ys, rfl, n1, q1, r1⟩ := hm.lst_at e1 hv
      exact ls pins s σ H _ us Q I rx ⟨a, ys, rfl, .inl (SqL.of q1), by rw [← r1.length]; exact hk φ H _ Ext.refl hm rfl⟩
    · exact hk.elim
  · exact hk.elim
theorem c_tup (c : Cok X g k) : CallD X g E (.type "tuple") tupD := by
  intro pins s σ H xs us Q I rx h
  obtain ⟨φ, m, ds, hm, hx, hk⟩ := h
  unfold tupD at hk
  have ls := call_tuple_of (X := X)
  rw [c.K] at ls
  split at hk
  · obtain ⟨v, rfl, hv⟩ := hx.one
    obtain ⟨a, ys, rfl, h1, h2⟩ := hv
    exact ls pins s σ H _ us Q I rx ⟨a, ys, rfl, .inr ⟨h1, hk φ H _ Ext.refl hm ⟨a, ys, rfl, h1, h2⟩⟩⟩
  · obtain ⟨v, rfl, hv⟩ := hx.one
    obtain ⟨a, ys, rfl, h1, h2⟩ := hv
    exact ls pins s σ H _ us Q I rx ⟨a, ys, rfl, .inl ⟨h1.sq, KX.tup hm h2 hk⟩⟩
  · obtain ⟨v, rfl, hv⟩ := hx.one
    split at hk
    · rename_i e1
      obtain ⟨a, ys, rfl, n1, q1, r1⟩ := hm.lst_at e1 hv
      exact ls pins s σ H _ us Q I rx ⟨a, ys, rfl, .inl ⟨SqL.of q1, KX.tup hm r1 hk⟩⟩
    · exact hk.elim
  · exact hk.elim
theorem c_lst (c : Cok X g k) : CallD X g E (.type "list") lstD := by
  intro pins s σ H xs us Q I rx h
  obtain ⟨φ, m, ds, hm, hx, hk⟩ := h
  unfold lstD at hk
  have ls := call_list_of (X := X)
  rw [c.K] at ls
  split at hk
  · obtain ⟨v, rfl, hv⟩ := hx.one
    obtain ⟨a, ys, rfl, h1, h2⟩ := hv
    exact ls pins s σ H _ us Q I rx ⟨a, ys, rfl, .inr h1, KX.lst hm h2 hk⟩
  · obtain ⟨v, rfl, hv⟩ := hx.one
    obtain ⟨a, ys, rfl, h1, h2⟩ := hv
    exact ls pins s σ H _ us Q I rx ⟨a, ys, rfl, .inl h1.sq, KX.lst hm h2 hk⟩
  · obtain ⟨v, rfl, hv⟩ := hx.one
    split at hk
    · rename_i e1
      obtain ⟨a, ys, rfl, n1, q1, r1⟩ := hm.lst_at e1 hv
      exact ls pins s σ H _ us Q I rx ⟨a, ys, rfl, .inl (SqL.of q1), KX.lst hm r1 hk⟩
    · exact hk.elim
  · exact hk.elim
theorem c_int : CallD X g E (.type "int") intD := by
  intro pins s σ H xs us Q I rx h
  obtain ⟨φ, m, ds, hm, hx, hk⟩ := h
  unfold intD at hk
  split at hk
  · obtain ⟨v, rfl, hv⟩ := hx.one
    cases (show v = .int _ from hv)
    exact call_int1 pins s σ H _ us Q I rx (.inl ⟨_, rfl, hk φ H _ Ext.refl hm rfl⟩)
  · obtain ⟨v, rfl, hv⟩ := hx.one
    cases (show v = .bl _ from hv)
    exact call_int1 pins s σ H _ us Q I rx (.inr ⟨_, rfl, hk φ H _ Ext.refl hm rfl⟩)
  · exact hk.elim
theorem c_abs : CallD X g E (.builtin "abs") absD := by
  intro pins s σ H xs us Q I rx h
  obtain ⟨φ, m, ds, hm, hx, hk⟩ := h
  unfold absD at hk
  split at hk
  · obtain ⟨v, rfl, hv⟩ := hx.one
    cases (show v = .int _ from hv)
    exact call_abs pins s σ H _ us Q I rx ⟨_, rfl, hk φ H _ Ext.refl hm rfl⟩
  · exact hk.elim
theorem c_max (c : Cok X g k) : CallD X g E (.builtin "max") maxD := by
  intro pins s σ H xs us Q I rx h
  obtain ⟨φ, m, ds, hm, hx, hk⟩ := h
  unfold maxD at hk
  split at hk
  · obtain ⟨v, u, rfl, hv, hu⟩ := hx.two
    cases (show v = .int _ from hv)
    cases (show u = .int _ from hu)
    exact call_max2 c.calm pins s σ H _ us Q I rx ⟨_, _, rfl, hk φ H _ Ext.refl hm rfl⟩
  · exact hk.elim
theorem c_min (c : Cok X g k) : CallD X g E (.builtin "min") minD := by
  intro pins s σ H xs us Q I rx h
  obtain ⟨φ, m, ds, hm, hx, hk⟩ := h
  unfold minD at hk
  split at hk
  · obtain ⟨v, u, rfl, hv, hu⟩ := hx.two
    cases (show v = .int _ from hv)
    cases (show u = .int _ from hu)
    exact call_min2 c.calm pins s σ H _ us Q I rx ⟨_, _, rfl, hk φ H _ Ext.refl hm rfl⟩
  · exact hk.elim
theorem c_gcd : CallD X g E (.builtin "math.gcd") gcdD := by
  intro pins s σ H xs us Q I rx h
  obtain ⟨φ, m, ds, hm, hx, hk⟩ := h
  unfold gcdD at hk
  split at hk
  · obtain ⟨v, u, rfl, hv, hu⟩ := hx.two
    cases (show v = .int _ from hv)
    cases (show u = .int _ from hu)
    exact cr_gcd pins s σ H _ us Q I rx ⟨_, _, rfl, hk φ H _ Ext.refl hm rfl⟩
  · exact hk.elim
end
end
end Core

set_option Elab.async false
set_option linter.all false
set_option maxRecDepth 100000
set_option maxHeartbeats 4000000
/-! Defs called where no repr is under way. -/
namespace Core
noncomputable section
open PySem PySem.Spec PyProof.Rows L2

/-- a def keeps its promise, called where nothing is being shown -/
structure FnG (P : Program) (w : World) (K : PySem.W.Frag) (mg : Str → Option Value) (base : Heap) (CX : CXT) (k : Nat) (f : Addr) (fd : FuncData) (ps : List Str) (sp : Sp) : Prop where
  len : ∀ vs H Q E, sp vs H Q E → vs.length = ps.length
  run : ∀ (A : Around) (outer : List Env) (s : Shared) (H : Hp) (args : Args) (us : List Value) (vs : List V) (Q : VK) (E : XK), A.guards = some [] →
    Room k A → Env0 P w K mg base A outer s H → BindsTo s fd args (ps.zip us) → Vals vs us → sp vs H Q E →
      codeAny (model P w) A (.call (.ref f) args) (CR CX outer P w H s Q E) s
section
variable {P : Program} {w : World} {K : PySem.W.Frag} {mg : Str → Option Value} {base : Heap} {CX : CXT} {k : Nat} {f : Addr} {fd : FuncData} {N ps : List Str} {sp : Sp}
theorem FnG.weak {sp' : Sp} (F : FnG P w K mg base CX k f fd ps sp) (h : ∀ vs H Q E, sp' vs H Q E → sp vs H Q E) : FnG P w K mg base CX k f fd ps sp' :=
  ⟨fun vs H Q E q => F.len vs H Q E (h _ _ _ _ q), fun A outer s H args us vs Q E hg hr he hb hv hs => F.run A outer s H args us vs Q E hg hr he hb hv (h _ _ _ _ hs)⟩
theorem FnG.up {j : Nat} (F : FnG P w K mg base CX j f fd ps sp) (h : j ≤ k) : FnG P w K mg base CX k f fd ps sp :=
  ⟨F.len, fun A outer s H args us vs Q E hg hr => F.run A outer s H args us vs Q E hg (hr.mono h)⟩
theorem FnG.of_no (h : ∀ vs H Q E, ¬ sp vs H Q E) : FnG P w K mg base CX k f fd ps sp :=
  ⟨fun vs H Q E q => (h _ _ _ _ q).elim, fun A outer s H args us vs Q E hg hr he hb hv hs => (h _ _ _ _ hs).elim⟩
/-- by its body -/
theorem fg_of {x qual : Str} {st : Stmt} (F : Fun K x qual st f fd) (S : FnScope N ps (defScope st)) (len : ∀ vs H Q E, sp vs H Q E → vs.length = ps.length)
    (hbody : ∀ (cdv : Value) (A : Around) (outer : List Env) (s : Shared) (H : Hp) (vs : List V) (Q : VK) (E : XK), A.guards = some [] →
      Room k (A.deeper (envOfC qual (defScope st) s.heap.objs.size f cdv)) → sp vs H Q E →
      ∃ t, PSs (cxOf CX P w K mg base N qual (defScope st) f cdv A outer s H E) (defBody st) t ∧ t { nx := fun _ H' => Q .non H', rt := Q } (start N vs) H) :
    FnG P w K mg base CX (k + 1) f fd ps sp := by
  obtain ⟨oc, od, kV, doc, pm, an, cdv, ct, osl, rfl, lk, hcd⟩ := F.ex
  refine ⟨len, fun A outer s H args us vs Q E hg hr e0 hb r hsp => ?_⟩
  have KX : K.In s.heap := e0.mod.kin.keeps fun b o e => (e0.bs b o e).1
  have lim : s.heap.NoLimit := e0.mod.nolimit.keeps fun b o e => (e0.bs b o e).1
  have hk : ∀ y ∈ ps.zip us, (defScope st).names.lookup y.1 = some .local ∨
      ((defScope st).names.lookup y.1 = some .cell ∧ ((cellsFrom (s.heap.objs.size + 1) (defScope st).names []).lookup y.1).isSome = true) := by
    rintro ⟨n, v⟩ hy
    rcases S.par n (List.of_mem_zip hy).1 with q | q
    · exact .inl q
    · exact .inr ⟨q, PySem.W.cellsFrom_some _ _ _ (.inl q)⟩
  refine codeAny_call_function hr.depth (KX _ _ lk) rfl S.co S.gen rfl (PySem.W.codeRec_of KX hcd) (hb _ _ _ _ ?_)
  refine wpAny_newFunctionEnv_cells S.kind hk fun env he s1 x => ?_
  subst he
  refine ⟨lim.keeps x.toInCall.keep, codeAny_func ?_⟩
  obtain ⟨t, ht, hq⟩ := hbody cdv A outer s H vs Q E hg (hr.deeper _) hsp
  have I := inv_start (CX := CX) (E := E) (cd := cdv) (qual := qual) (f := f) S hr.hd e0 (len _ _ _ _ hsp) r x
  refine wpAny_mono (ht.run [] s1 _ H _ I hq) (fun fl s' hs => ?_) fun e s' hs => hs
  cases fl with
  | ret u =>
    obtain ⟨v, σ', H', J, rv, q⟩ := hs
    exact ⟨v, H', J.os, J.bare, J.base, J.hok, rv, q⟩
  | next =>
    obtain ⟨σ', H', J, q⟩ := hs
    exact ⟨V.non, H', J.os, J.bare, J.base, J.hok, rfl, q⟩
  | brk =>
    obtain ⟨_, _, _, q⟩ := hs
    exact q.elim
  | cont =>
    obtain ⟨_, _, _, q⟩ := hs
    exact q.elim
end

section
variable {X : Cx} {CX : CXT} {k : Nat} {f C : Addr} {fd : FuncData} {ps : List Str} {sp : Sp} {E : XK} {x m : Str} {p pos apos : Pos} {e o : Expr} {es : List Expr} {ta : TE} {t tk : TA} {kws : List Keyword}
/-- how a call binds: us by position, ws by the names ks; all parameters of ps are given, g puts the values in their order -/
structure Bnd (K : PySem.W.Frag) (fd : FuncData) (ps ks : List Str) (n : Nat) (ix : List Nat) : Prop where
  to : ∀ (s : Shared) (us ws : List Value), us.length = n → ws.length = ks.length → BindsTo s fd ⟨us, ks.zip ws⟩ (ps.zip (us ++ ix.map fun i => ws.getD i .none))
  lt : ∀ i ∈ ix, i < ks.length
  len : n + ix.length = ps.length
theorem vals_getD {vs : List V} {us : List Value} (r : Vals vs us) : ∀ (ix : List Nat), (∀ i ∈ ix, i < vs.length) → Vals (ix.map fun i => vs.getD i .non) (ix.map fun i => us.getD i .none)
  | [], _ => .nil
  | i :: ix, h => by
    refine .cons ?_ (vals_getD r ix fun j hj => h j (List.mem_cons_of_mem _ hj))
    have hi := h i List.mem_cons_self
    obtain ⟨u, h1, h2⟩ := r.get (List.getElem?_eq_getElem hi)
    simp only [List.getD_eq_getElem?_getD]
    rw [h1, List.getElem?_eq_getElem hi]
    exact h2
theorem run_fg {pins : List (Addr × Obj)} {σ : L2.St} {H : Hp} {s : Shared} {Q : VK} {us ws : List Value} {vs zs : List V} {ks : List Str} {n : Nat} {ix : List Nat}
    (F : FnG X.prog X.w X.K X.mg X.base CX k f fd ps sp) (hg : X.A.guards = some []) (hr : Room k X.A) (hb : Bnd X.K fd ps ks n ix) (hx : Passes CX X E)
    (I : Inv X pins σ H s) (r : Vals vs us) (rz : Vals zs ws) (hn : vs.length = n) (hz : zs.length = ks.length) (h : sp (vs ++ ix.map fun i => zs.getD i .non) H Q E) :
    wpAny (model X.prog X.w) X.A (call (.ref f) us (ks.zip ws)) (EP X pins σ Q) X.xe s := by
  have r2 := r.append (vals_getD rz ix fun i hi => by rw [hz]; exact hb.lt i hi)
  have go := F.run X.A X.stack s H _ _ _ Q E hg hr I.env0 (hb.to s us ws (by rw [← r.length]; exact hn) (by rw [← rz.length]; exact hz)) r2 h
  refine wpAny_call (codeAny_mono go fun r s' hq => ?_)
  cases r with
  | error e => exact hx pins σ H s e s' I hq
  | ok fl => cases fl with
    | ret u => exact I.after hq
    | next => exact hq.elim
    | brk => exact hq.elim
    | cont => exact hq.elim
/-- f(e, ..) -/
theorem pg_call {n : Nat} (F : FnG X.prog X.w X.K X.mg X.base CX k f fd ps sp) (gu : X.A.guards = some []) (hr : Room k X.A) (hg : Gl X x) (hm : X.mg x = some (.ref f)) (hk : PySem.W.keepIn X.K (.ref f) = true) (hb : Bnd X.K fd ps [] n []) (hx : Passes CX X E)
    (ha : PA X (e :: es) t) (hdb : (x == ("__debug__" : Str)) = false := by decide) (he : starEach (e :: es) X.env = (false, eval e X.env) :: starEach es X.env := by rfl)
    (hpl : (backTo pos (starEach es X.env)).any (·.1) = false := by rfl) :
    PE X (.Call (.Name x p) (e :: es) [] pos) (fun σ H Q => t σ H fun vs H1 => vs.length = n ∧ sp vs H1 Q E) := by
  refine ⟨fun pins s σ H Q I h => wpAny_Call_Name_kw (ld_glob I hg hm ?_ hdb)⟩
  refine PySem.W.callWith_K (h₀ := X.base) I.ok.mod.kin hk (thn (ha.run pos pins s σ H _ I h) ?_) he hpl
  rintro us s1 ⟨vs, H1, I1, r, hn, q⟩
  refine ⟨I1.kIn, run_fg (ws := []) (zs := []) F gu hr hb hx I1 r .nil hn rfl ?_⟩
  simpa using q
theorem pg_call0 (F : FnG X.prog X.w X.K X.mg X.base CX k f fd ps sp) (gu : X.A.guards = some []) (hr : Room k X.A) (hg : Gl X x) (hm : X.mg x = some (.ref f)) (hk : PySem.W.keepIn X.K (.ref f) = true) (hb : Bnd X.K fd ps [] 0 []) (hx : Passes CX X E)
    (hdb : (x == ("__debug__" : Str)) = false := by decide) : PE X (.Call (.Name x p) [] [] pos) (fun _ H Q => sp [] H Q E) := by
  refine ⟨fun pins s σ H Q I h => wpAny_Call_Name_kw (ld_glob I hg hm ?_ hdb)⟩
  exact PySem.W.callWith_K0 I.kIn hk (run_fg (us := []) (vs := []) (ws := []) (zs := []) F gu hr hb hx I .nil .nil rfl rfl (by simpa using h))
end
end
end Core

set_option Elab.async false
set_option linter.all false
set_option maxRecDepth 100000
set_option maxHeartbeats 4000000
/-! Expressions, targets, statements. -/
namespace Core
noncomputable section
open PySem PySem.Spec PyProof.Rows L2

/-! ### denotations -/
def varF (i : Nat) : Ev := fun L m => match nthK L i with
  | some d => .ok d m
  | none => .bad
def cF (d : D) : Ev := fun _ m => .ok d m
def binF (o : Op2) (f h : Ev) : Ev := fun L m => bindO (f L m) fun x m => bindO (h L m) fun y m => o x y m
def negD : D → Mem → Out D := fun x m => match x with
  | .int i => .ok (.int (-i)) m
  | _ => .bad
def unF (o : D → Mem → Out D) (f : Ev) : Ev := fun L m => bindO (f L m) o
def chainF (o o' : Op2) (f h k : Ev) : Ev := fun L m => bindO (f L m) fun x m => bindO (h L m) fun y m => bindO (o x y m) fun z m => match z with
  | .bl true => bindO (k L m) fun w m => o' y w m
  | .bl false => .ok (.bl false) m
  | _ => .bad
def boO (d : D) (m : Mem) : Out Bool := match d with
  | .bl b => .ok b m
  | _ => .bad
/-- a test by a value that is a bool -/
def tstF (f : Ev) : Evb := fun L m => bindO (f L m) boO
def truF (f : Ev) : Evb := fun L m => bindO (f L m) truO
def andB (f h : Evb) : Evb := fun L m => bindO (f L m) fun b m => if b then h L m else .ok false m
def orB (f h : Evb) : Evb := fun L m => bindO (f L m) fun b m => if b then .ok true m else h L m
def notB (f : Evb) : Evb := fun L m => bindO (f L m) fun b m => .ok (!b) m
def notO (d : D) (m : Mem) : Out D := match d with
  | .bl b => .ok (.bl (!b)) m
  | _ => .bad
def andF (f h : Ev) : Ev := fun L m => bindO (f L m) fun d m => match d with
  | .bl true => h L m
  | .bl false => .ok (.bl false) m
  | _ => .bad
def orF (f h : Ev) : Ev := fun L m => bindO (f L m) fun d m => match d with
  | .bl true => .ok (.bl true) m
  | .bl false => h L m
  | _ => .bad
def iteF (c : Evb) (f h : Ev) : Ev := fun L m => bindO (c L m) fun b m => if b then f L m else h L m
def nilF : Evs := fun _ m => .ok [] m
def consF (f : Ev) (h : Evs) : Evs := fun L m => bindO (f L m) fun d m => bindO (h L m) fun ds m => .ok (d :: ds) m
def tupF (h : Evs) : Ev := fun L m => bindO (h L m) fun ds m => if ds.length ≤ 16777216 then .ok (.tup ds) m else .bad
def lstF (h : Evs) : Ev := fun L m => frcO (bindO (h L m) fun ds m => if ds.length ≤ 16777216 then .ok (.ref m.length) (m ++ [.lst ds]) else .bad)
def fnF (o : Fn1) (h : Evs) : Ev := fun L m => frcO (bindO (h L m) o)
def slF (f : Ev) (lo hi : Option Ev) : Ev := fun L m => bindO (f L m) fun x m =>
  bindO (match lo with | none => .ok none m | some l => bindO (l L m) fun d m => match d with | .int i => .ok (some i) m | _ => .bad) fun l m =>
  bindO (match hi with | none => .ok none m | some l => bindO (l L m) fun d m => match d with | .int i => .ok (some i) m | _ => .bad) fun u m => slD x l u m

section
variable {X : Cx} {g : Gc} {E : EX} {k : Nat} {a b c : Expr} {f h q : Ev} {tb tc : Evb} {pos p : Pos} {φ : List Addr} {m : Mem} {H : Hp}
theorem x_var (i : Nat) {x : Str} (hN : X.N[i]? = some x := by rfl) (hv : Vis X.env.scope x := by first | exact Or.inl rfl | exact Or.inr (Or.inl rfl) | exact Or.inr (Or.inr rfl)) (hd : (x == ("__debug__" : Str)) = false := by decide)
    (hcd : (x == ("__classdict__" : Str)) = false := by decide) : XP X g E (.Name x pos) (varF i) :=
  PE.weaken (pe_var hN hv hd hcd) fun σ H Q ⟨φ, L, m, hl, hm, hk⟩ => by
    unfold varF at hk
    split at hk
    · rename_i d e
      obtain ⟨v, e1, e2⟩ := hl.at_ i d (nthK_ok e)
      exact ⟨v, e1, hk φ H v Ext.refl hm e2⟩
    · exact hk.elim
theorem x_c {e : Expr} {v : V} {d : D} (he : PE X e (tC v)) (hd : ∀ φ H, Rp g.K φ H d v) : XP X g E e (cF d) :=
  PE.weaken he fun σ H Q ⟨φ, L, m, hl, hm, hk⟩ => hk φ H v Ext.refl hm (hd φ H)
theorem x_int {i j} : XP X g E (.Constant (.int i) j pos) (cF (.int i)) := x_c pe_int fun _ _ => rfl
theorem x_bl {i j} : XP X g E (.Constant (.bool i) j pos) (cF (.bl i)) := x_c pe_bl fun _ _ => rfl
theorem x_non {j} : XP X g E (.Constant .none j pos) (cF .non) := x_c pe_non fun _ _ => rfl
theorem x_str {x j} : XP X g E (.Constant (.str x) j pos) (cF (.str x)) := x_c pe_str fun _ _ => rfl
theorem x_bin {op : Operator} {o : Op2} (ho : OpD X g E (binaryOp op) o) (ha : XP X g E a f) (hb : XP X g E b h) : XP X g E (.BinOp a op b pos) (binF o f h) :=
  PE.weaken (pe_op ho ha hb) fun σ H Q ⟨φ, L, m, hl, hm, hk⟩ => ⟨φ, L, m, hl, hm, KX.mono (KX.bind hk) fun v H1 ⟨d, φ1, m1, ex, hm1, hd, hk1⟩ =>
    ⟨φ1, L, m1, hl.ext hm ex, hm1, KX.mono (KX.bind hk1) fun u H2 ⟨e, φ2, m2, ex2, hm2, he, hk2⟩ => ⟨φ2, m2, d, e, hm2, hd.ext hm1 ex2, he, hk2⟩⟩⟩
theorem x_cmp {op : CmpOp} {o : Op2} (ho : OpD X g E (compareOp op) o) (ha : XP X g E a f) (hb : XP X g E b h) (hm : behindInMarks op b = false := by first | exact nobehind _ (by decide) (by decide) | rfl) : XP X g E (.Compare a [op] [b] pos) (binF o f h) :=
  PE.weaken (pe_cmpR ho ha hb hm) fun σ H Q ⟨φ, L, m, hl, hm, hk⟩ => ⟨φ, L, m, hl, hm, KX.mono (KX.bind hk) fun v H1 ⟨d, φ1, m1, ex, hm1, hd, hk1⟩ =>
    ⟨φ1, L, m1, hl.ext hm ex, hm1, KX.mono (KX.bind hk1) fun u H2 ⟨e, φ2, m2, ex2, hm2, he, hk2⟩ => ⟨φ2, m2, d, e, hm2, hd.ext hm1 ex2, he, hk2⟩⟩⟩
theorem bo_v {d : D} {v : V} {Q : Bool → Hp → Prop} (hm : RM g φ m H) (hd : Rp g.K φ H d v) (hk : KXb g E (boO d m) φ H Q) : ∃ b, v = .bl b ∧ Q b H := by
  cases d <;> try exact hk.elim
  exact ⟨_, hd, hk φ H Ext.refl hm⟩
theorem y_cmp {op : CmpOp} {o : Op2} (ho : OpD X g E (compareOp op) o) (ha : XP X g E a f) (hb : XP X g E b h) (hm : behindInMarks op b = false := by first | exact nobehind _ (by decide) (by decide) | rfl) : XPb X g E (.Compare a [op] [b] pos) (tstF (binF o f h)) :=
  PT.weaken (pt_cmpR ho ha hb hm) fun σ H Q ⟨φ, L, m, hl, hm, hk⟩ => ⟨φ, L, m, hl, hm, by
    have hk := KX.bindB hk
    refine KX.mono (KX.bind hk) fun v H1 ⟨d, φ1, m1, ex, hm1, hd, hk1⟩ => ?_
    refine ⟨φ1, L, m1, hl.ext hm ex, hm1, KX.mono (KX.bind hk1) fun u H2 ⟨e, φ2, m2, ex2, hm2, he, hk2⟩ => ?_⟩
    exact ⟨φ2, m2, d, e, hm2, hd.ext hm1 ex2, he, KX.mono hk2 fun z H3 ⟨d3, φ3, m3, ex3, hm3, hd3, hk3⟩ => bo_v hm3 hd3 hk3⟩⟩
theorem chain_k {o o' : Op2} {Q : VK} (hcx : RM g φ m H) {σ : L2.St} {L : Sl} (hl : RL g.K φ H L σ) (hk : KX g E (chainF o o' f h q L m) φ H Q) :
    tChain (rD g E o) (rD g E o') (tX g E f) (tX g E h) (tX g E q) σ H Q := by
  refine ⟨φ, L, m, hl, hcx, KX.mono (KX.bind hk) fun v H1 ⟨d, φ1, m1, ex, hm1, hd, hk1⟩ => ?_⟩
  refine ⟨φ1, L, m1, hl.ext hcx ex, hm1, KX.mono (KX.bind hk1) fun u H2 ⟨e, φ2, m2, ex2, hm2, he, hk2⟩ => ?_⟩
  refine ⟨φ2, m2, d, e, hm2, hd.ext hm1 ex2, he, KX.mono (KX.bind hk2) fun z H3 ⟨d3, φ3, m3, ex3, hm3, hd3, hk3⟩ => ?_⟩
  cases d3 with
  | bl bb =>
    refine ⟨bb, hd3, ?_⟩
    cases bb with
    | false =>
      rw [if_neg Bool.false_ne_true]
      exact hk3 φ3 H3 _ Ext.refl hm3 rfl
    | true =>
      rw [if_pos rfl]
      refine ⟨φ3, L, m3, ((hl.ext hcx ex).ext hm1 ex2).ext hm2 ex3, hm3, KX.mono (KX.bind hk3) fun w H4 ⟨d4, φ4, m4, ex4, hm4, hd4, hk4⟩ => ?_⟩
      exact ⟨φ4, m4, e, d4, hm4, (he.ext hm2 ex3).ext hm3 ex4, hd4, hk4⟩
  | _ => exact hk3.elim
theorem x_chain {op op' : CmpOp} {o o' : Op2} (ho : OpD X g E (compareOp op) o) (ho' : OpD X g E (compareOp op') o') (ha : XP X g E a f) (hb : XP X g E b h) (hc : XP X g E c q)
    (hm : lastMarks [op, op'] [b, c] = false := by with_unfolding_all rfl) : XP X g E (.Compare a [op, op'] [b, c] pos) (chainF o o' f h q) :=
  PE.weaken (pe_chain ho ho' ha hb hc hm) fun σ H Q ⟨φ, L, m, hl, hm, hk⟩ => chain_k hm hl hk
theorem y_chain {op op' : CmpOp} {o o' : Op2} (ho : OpD X g E (compareOp op) o) (ho' : OpD X g E (compareOp op') o') (ha : XP X g E a f) (hb : XP X g E b h) (hc : XP X g E c q)
    (hm : lastMarks [op, op'] [b, c] = false := by with_unfolding_all rfl) : XPb X g E (.Compare a [op, op'] [b, c] pos) (tstF (chainF o o' f h q)) := by
  refine PT.weaken (pt_chain ho ho' ha hb hc hm) fun σ H Q ⟨φ, L, m, hl, hm, hk⟩ => ?_
  have hk := KX.bindB hk
  have := chain_k (Q := fun z H' => ∃ kk, z = .bl kk ∧ Q kk H') hm hl (KX.mono hk fun z H3 ⟨d3, φ3, m3, ex3, hm3, hd3, hk3⟩ => bo_v hm3 hd3 hk3)
  exact this
theorem u_neg : UnR X (unaryOp .USub) (fun x H Q => ∃ φ m d, RM g φ m H ∧ Rp g.K φ H d x ∧ KX g E (negD d m) φ H Q) := by
  intro pins s σ H x v Q I rx ⟨φ, m, d, hm, hd, hk⟩
  cases d <;> try exact hk.elim
  exact un_neg pins s σ H x v Q I rx ⟨_, hd, hk φ H _ Ext.refl hm rfl⟩
theorem x_neg (ha : XP X g E a f) : XP X g E (.UnaryOp .USub a pos) (unF negD f) :=
  PE.weaken (pe_un u_neg ha) fun σ H Q ⟨φ, L, m, hl, hm, hk⟩ => ⟨φ, L, m, hl, hm, KX.mono (KX.bind hk) fun v H1 ⟨d, φ1, m1, ex, hm1, hd, hk1⟩ => ⟨φ1, m1, d, hm1, hd, hk1⟩⟩
theorem x_not (ha : XP X g E a f) : XP X g E (.UnaryOp .Not a pos) (unF notO f) :=
  PE.weaken (pe_not ha) fun σ H Q ⟨φ, L, m, hl, hm, hk⟩ => ⟨φ, L, m, hl, hm, KX.mono (KX.bind hk) fun v H1 ⟨d, φ1, m1, ex, hm1, hd, hk1⟩ => by
    cases d <;> try exact hk1.elim
    exact ⟨_, hd, hk1 φ1 H1 _ Ext.refl hm1 rfl⟩⟩
theorem x_one {op} (ha : XP X g E a f) : XP X g E (.BoolOp op [a] pos) f := pe_one ha
theorem x_and {rest : List Expr} (ha : XP X g E a f) (hb : XP X g E (.BoolOp .And (b :: rest) pos) h) : XP X g E (.BoolOp .And (a :: b :: rest) pos) (andF f h) :=
  PE.weaken (pe_and ha hb) fun σ H Q ⟨φ, L, m, hl, hm, hk⟩ => ⟨φ, L, m, hl, hm, KX.mono (KX.bind hk) fun v H1 ⟨d, φ1, m1, ex, hm1, hd, hk1⟩ => by
    cases d <;> try exact hk1.elim
    rename_i bb
    refine ⟨bb, hd, ?_⟩
    cases bb with
    | false =>
      rw [if_neg Bool.false_ne_true]
      exact hk1 φ1 H1 _ Ext.refl hm1 rfl
    | true =>
      rw [if_pos rfl]
      exact ⟨φ1, L, m1, hl.ext hm ex, hm1, hk1⟩⟩
theorem x_or {rest : List Expr} (ha : XP X g E a f) (hb : XP X g E (.BoolOp .Or (b :: rest) pos) h) : XP X g E (.BoolOp .Or (a :: b :: rest) pos) (orF f h) :=
  PE.weaken (pe_or ha hb) fun σ H Q ⟨φ, L, m, hl, hm, hk⟩ => ⟨φ, L, m, hl, hm, KX.mono (KX.bind hk) fun v H1 ⟨d, φ1, m1, ex, hm1, hd, hk1⟩ => by
    cases d <;> try exact hk1.elim
    rename_i bb
    refine ⟨bb, hd, ?_⟩
    cases bb with
    | true =>
      rw [if_pos rfl]
      exact hk1 φ1 H1 _ Ext.refl hm1 rfl
    | false =>
      rw [if_neg Bool.false_ne_true]
      exact ⟨φ1, L, m1, hl.ext hm ex, hm1, hk1⟩⟩
theorem x_ite {ct : Expr} (hc : XPb X g E ct tc) (ha : XP X g E a f) (hb : XP X g E b h) : XP X g E (.IfExp ct a b pos) (iteF tc f h) :=
  PE.weaken (pe_ifExp hc ha hb) fun σ H Q ⟨φ, L, m, hl, hm, hk⟩ => ⟨φ, L, m, hl, hm, by
    have hk := KXb.bind hk
    cases e : tc L m with
    | ok bb m1 =>
      rw [e] at hk
      intro φ1 H1 ex hm1
      obtain ⟨φ2, m2, ex2, hm2, hk2⟩ := hk φ1 H1 ex hm1
      cases bb with
      | true => rw [if_pos rfl]; exact ⟨φ2, L, m2, hl.ext hm ex2, hm2, hk2⟩
      | false => rw [if_neg Bool.false_ne_true]; exact ⟨φ2, L, m2, hl.ext hm ex2, hm2, hk2⟩
    | exc cc fs m1 => rw [e] at hk; exact hk
    | bad => rw [e] at hk; exact hk⟩
/-! tests -/
theorem y_tru (c : Cok X g k) {e : Expr} (he : XP X g E e f) (hw : ∀ whole, isTrue e X.env whole = (do let v ← whole; standAt e.pos; holding [v] (truthy v)) := by intro _; rfl) : XPb X g E e (truF f) := x_tru c he hw
theorem y_not (ha : XPb X g E a tb) : XPb X g E (.UnaryOp .Not a pos) (notB tb) :=
  PT.weaken (pt_not ha) fun σ H Q ⟨φ, L, m, hl, hm, hk⟩ => ⟨φ, L, m, hl, hm, by
    have hk := KXb.bindB hk
    cases e : tb L m with
    | ok bb m1 =>
      rw [e] at hk
      intro φ1 H1 ex hm1
      obtain ⟨φ2, m2, ex2, hm2, hk2⟩ := hk φ1 H1 ex hm1
      exact hk2 φ2 H1 Ext.refl hm2
    | exc cc fs m1 => rw [e] at hk; exact hk
    | bad => rw [e] at hk; exact hk⟩
abbrev XPw (X : Cx) (g : Gc) (E : EX) (e : Expr) (f : Evb) : Prop := PW X e (tXb g E f)
theorem PW.weaken {X : Cx} {e : Expr} {t t' : TT} (h : PW X e t) (w : ∀ σ H Q, t' σ H Q → t σ H Q) : PW X e t' := ⟨fun whole pins s σ H Q I q => h.run whole pins s σ H Q I (w σ H Q q)⟩
theorem w_and1 (ha : XPb X g E a tb) : XPw X g E (.BoolOp .And [a] pos) tb := pw_and1 ha
theorem w_or1 (ha : XPb X g E a tb) : XPw X g E (.BoolOp .Or [a] pos) tb := pw_or1 ha
theorem w_and {rest : List Expr} (ha : XPb X g E a tb) (hb : XPw X g E (.BoolOp .And (b :: rest) pos) tc) : XPw X g E (.BoolOp .And (a :: b :: rest) pos) (andB tb tc) :=
  PW.weaken (pw_and ha hb) fun σ H Q ⟨φ, L, m, hl, hm, hk⟩ => ⟨φ, L, m, hl, hm, by
    have hk := KXb.bindB hk
    cases e : tb L m with
    | ok bb m1 =>
      rw [e] at hk
      intro φ1 H1 ex hm1
      obtain ⟨φ2, m2, ex2, hm2, hk2⟩ := hk φ1 H1 ex hm1
      cases bb with
      | true => rw [if_pos rfl]; exact ⟨φ2, L, m2, hl.ext hm ex2, hm2, hk2⟩
      | false => rw [if_neg Bool.false_ne_true]; exact hk2 φ2 H1 Ext.refl hm2
    | exc cc fs m1 => rw [e] at hk; exact hk
    | bad => rw [e] at hk; exact hk⟩
theorem w_or {rest : List Expr} (ha : XPb X g E a tb) (hb : XPw X g E (.BoolOp .Or (b :: rest) pos) tc) : XPw X g E (.BoolOp .Or (a :: b :: rest) pos) (orB tb tc) :=
  PW.weaken (pw_or ha hb) fun σ H Q ⟨φ, L, m, hl, hm, hk⟩ => ⟨φ, L, m, hl, hm, by
    have hk := KXb.bindB hk
    cases e : tb L m with
    | ok bb m1 =>
      rw [e] at hk
      intro φ1 H1 ex hm1
      obtain ⟨φ2, m2, ex2, hm2, hk2⟩ := hk φ1 H1 ex hm1
      cases bb with
      | true => rw [if_pos rfl]; exact hk2 φ2 H1 Ext.refl hm2
      | false => rw [if_neg Bool.false_ne_true]; exact ⟨φ2, L, m2, hl.ext hm ex2, hm2, hk2⟩
    | exc cc fs m1 => rw [e] at hk; exact hk
    | bad => rw [e] at hk; exact hk⟩
theorem y_w {e : Expr} (h : XPw X g E e tb) : XPb X g E e tb := h.pt
/-! displays, arguments -/
variable {e : Expr} {es : List Expr} {hs : Evs}
theorem a_nil : XPs X g E [] nilF := PA.weaken pa_nil fun σ H Q ⟨φ, L, m, hl, hm, hk⟩ => hk φ H [] Ext.refl hm rfl
theorem a_cons (ha : XP X g E e f) (hr : XPs X g E es hs) (hst : starEach (e :: es) X.env = (false, eval e X.env) :: starEach es X.env := by rfl) : XPs X g E (e :: es) (consF f hs) :=
  PA.weaken (pa_cons ha hr hst) fun σ H Q ⟨φ, L, m, hl, hm, hk⟩ => ⟨φ, L, m, hl, hm, KX.mono (KX.bindS hk) fun v H1 ⟨d, φ1, m1, ex, hm1, hd, hk1⟩ => ⟨φ1, L, m1, hl.ext hm ex, hm1, by
    have hk1 := KXs.bindS hk1
    cases e : hs L m1 with
    | ok ds m2 =>
      rw [e] at hk1
      intro φ2 H2 vs ex2 hm2 hds
      obtain ⟨ds', φ3, m3, ex3, hm3, hd3, hk3⟩ := hk1 φ2 H2 vs ex2 hm2 hds
      exact hk3 φ3 H2 (v :: vs) Ext.refl hm3 ⟨v, vs, rfl, hd.ext hm1 ex3, hd3⟩
    | exc cc fs m2 => rw [e] at hk1; exact hk1
    | bad => rw [e] at hk1; exact hk1⟩⟩
theorem KXs.mono {o : Out (List D)} {Q Q' : List V → Hp → Prop} (k : KXs g E o φ H Q) (h : ∀ v H', Q v H' → Q' v H') : KXs g E o φ H Q' := by
  cases o with
  | ok d m => exact fun φ' H' v y r' q => h _ _ (k φ' H' v y r' q)
  | exc c fs m => exact k
  | bad => exact k
theorem x_tup {x1} (hh : XPs X g E es hs) : XP X g E (.Tuple es x1 pos) (tupF hs) :=
  PE.weaken (pe_tup hh) fun σ H Q ⟨φ, L, m, hl, hm, hk⟩ => ⟨φ, L, m, hl, hm, KXs.mono (KXs.bind hk) fun vs H1 ⟨ds, φ1, m1, ex, hm1, hd, hk1⟩ => by
    split at hk1
    · rename_i hz
      exact ⟨by rw [← lim_eq, ← hd.length]; exact hz, KX.tup hm1 hd hk1⟩
    · exact hk1.elim⟩
theorem x_lst (hh : XPs X g E es hs) : XP X g E (.List es pos) (lstF hs) :=
  PE.weaken (pe_lst hh) fun σ H Q ⟨φ, L, m, hl, hm, hk⟩ => ⟨φ, L, m, hl, hm, KXs.mono (KXs.bind (KX.fr hk)) fun vs H1 ⟨ds, φ1, m1, ex, hm1, hd, hk1⟩ => by
    split at hk1
    · rename_i hz
      exact ⟨by rw [← lim_eq, ← hd.length]; exact hz, KX.lst hm1 hd hk1⟩
    · exact hk1.elim⟩
/-! calls of built-ins -/
theorem x_callB {id : String} {x : Str} {o : Fn1} (hc : CallD X g E (.builtin id) o) (hg : Gl X x) (hm : X.mg x = none) (hv : bootBuiltins x = some (.builtin id)) (ha : XPs X g E (e :: es) hs) (hn : x ≠ "__name__" := by decide) (hdb : (x == ("__debug__" : Str)) = false := by decide)
    (he : starEach (e :: es) X.env = (false, eval e X.env) :: starEach es X.env := by rfl) (hpl : (backTo pos (starEach es X.env)).any (·.1) = false := by rfl) : XP X g E (.Call (.Name x p) (e :: es) [] pos) (fnF o hs) :=
  PE.weaken (pe_callB hc hg hm hv ha hn hdb he hpl) fun σ H Q ⟨φ, L, m, hl, hm, hk⟩ => ⟨φ, L, m, hl, hm, KXs.mono (KXs.bind (KX.fr hk)) fun vs H1 ⟨ds, φ1, m1, ex, hm1, hd, hk1⟩ => ⟨φ1, m1, ds, hm1, hd, hk1⟩⟩
theorem x_callT {id : String} {x : Str} {o : Fn1} (hc : CallD X g E (.type id) o) (hg : Gl X x) (hm : X.mg x = none) (hv : bootBuiltins x = some (.type id)) (ha : XPs X g E (e :: es) hs) (hn : x ≠ "__name__" := by decide) (hdb : (x == ("__debug__" : Str)) = false := by decide)
    (he : starEach (e :: es) X.env = (false, eval e X.env) :: starEach es X.env := by rfl) (hpl : (backTo pos (starEach es X.env)).any (·.1) = false := by rfl) : XP X g E (.Call (.Name x p) (e :: es) [] pos) (fnF o hs) :=
  PE.weaken (pe_callTy hc hg hm hv ha hn hdb he hpl) fun σ H Q ⟨φ, L, m, hl, hm, hk⟩ => ⟨φ, L, m, hl, hm, KXs.mono (KXs.bind (KX.fr hk)) fun vs H1 ⟨ds, φ1, m1, ex, hm1, hd, hk1⟩ => ⟨φ1, m1, ds, hm1, hd, hk1⟩⟩
theorem x_callM {id : String} {x : Str} {o : Fn1} (hc : CallD X g E (.builtin id) o) (hg : Gl X x) (hm : X.mg x = some (.builtin id)) (ha : XPs X g E (e :: es) hs) (hdb : (x == ("__debug__" : Str)) = false := by decide)
    (he : starEach (e :: es) X.env = (false, eval e X.env) :: starEach es X.env := by rfl) (hpl : (backTo pos (starEach es X.env)).any (·.1) = false := by rfl) : XP X g E (.Call (.Name x p) (e :: es) [] pos) (fnF o hs) :=
  PE.weaken (pe_callBfun hc hg hm ha hdb he hpl) fun σ H Q ⟨φ, L, m, hl, hm, hk⟩ => ⟨φ, L, m, hl, hm, KXs.mono (KXs.bind (KX.fr hk)) fun vs H1 ⟨ds, φ1, m1, ex, hm1, hd, hk1⟩ => ⟨φ1, m1, ds, hm1, hd, hk1⟩⟩
/-! subscripts -/
def rIX (g : Gc) (E : EX) : R2 := rD g E ixD
theorem atD_get {ds : List D} {xs : List V} {K : PySem.W.Frag} {i : Int} {d : D} (h : RpA K φ H ds xs) (e : atD ds i = some d) : ∃ v, atI xs i = some v ∧ Rp K φ H d v := by
  unfold atD at e
  unfold atI
  rw [← h.length]
  cases q : ixN ds.length i with
  | none => rw [q] at e; cases e
  | some j =>
    rw [q] at e
    obtain ⟨v, h1, h2⟩ := h.get (show ds[j]? = some d from e)
    exact ⟨v, h1, h2⟩
theorem ix_D (c : Cok X g k) : IxR X (rIX g E) := by
  intro value slice pins s σ H x y v u Q I rx ry hq hs
  obtain ⟨φ, m, dx, dy, hm, hx, hy, hk⟩ := hq
  have ixs := ix_seq (X := X)
  rw [c.K] at ixs
  cases dx <;> try exact hk.elim
  all_goals cases dy <;> try exact hk.elim
  · rename_i z i
    simp only [ixD] at hk
    split at hk
    · rename_i hz
      split at hk
      · rename_i cc e
        exact ixs value slice pins s σ H x y v u Q I rx ry (.inr (.inr ⟨z, i, cc, hx, hy, by rw [← lim_eq]; exact hz, e, hk φ H _ Ext.refl hm rfl⟩)) hs
      · exact hk.elim
    · exact hk.elim
  · rename_i ds i
    simp only [ixD] at hk
    split at hk
    · rename_i d e
      obtain ⟨a, xs, rfl, h1, h2⟩ := hx
      obtain ⟨w, e1, e2⟩ := atD_get h2 e
      exact ixs value slice pins s σ H _ y v u Q I rx ry (.inr (.inl ⟨a, xs, i, w, rfl, hy, h1, e1, hk φ H _ Ext.refl hm e2⟩)) hs
    · exact hk.elim
  · rename_i ds i
    simp only [ixD] at hk
    split at hk
    · rename_i d e
      obtain ⟨a, xs, rfl, h1, h2⟩ := hx
      obtain ⟨w, e1, e2⟩ := atD_get h2 e
      exact ixs value slice pins s σ H _ y v u Q I rx ry (.inl ⟨a, xs, i, w, rfl, hy, h1.sq, e1, hk φ H _ Ext.refl hm e2⟩) hs
    · exact hk.elim
  · rename_i n i
    simp only [ixD] at hk
    split at hk
    · rename_i ds e0
      split at hk
      · rename_i d e
        obtain ⟨a, xs, rfl, n1, h1, h2⟩ := hm.lst_at e0 hx
        obtain ⟨w, e1, e2⟩ := atD_get h2 e
        exact ixs value slice pins s σ H _ y v u Q I rx ry (.inl ⟨a, xs, i, w, rfl, hy, SqL.of h1, e1, hk φ H _ Ext.refl hm e2⟩) hs
      · exact hk.elim
    · exact hk.elim
theorem x_ix (cc : Cok X g k) (ha : XP X g E a f) (hb : XP X g E b h) (hs : PlainIx b := by intro _ _; rfl) : XP X g E (.Subscript a b pos) (binF ixD f h) :=
  PE.weaken (pe_ix (ix_D (E := E) cc) ha hb hs) fun σ H Q ⟨φ, L, m, hl, hm, hk⟩ => ⟨φ, L, m, hl, hm, KX.mono (KX.bind hk) fun v H1 ⟨d, φ1, m1, ex, hm1, hd, hk1⟩ =>
    ⟨φ1, L, m1, hl.ext hm ex, hm1, KX.mono (KX.bind hk1) fun u H2 ⟨e, φ2, m2, ex2, hm2, he, hk2⟩ => ⟨φ2, m2, d, e, hm2, hd.ext hm1 ex2, he, hk2⟩⟩⟩
end
end
end Core

set_option Elab.async false
set_option linter.all false
set_option maxRecDepth 100000
set_option maxHeartbeats 4000000
/-! Slices, isinstance, repr; targets and statements. -/
namespace Core
noncomputable section
open PySem PySem.Spec PyProof.Rows L2

section
variable {X : Cx} {g : Gc} {E : EX} {k : Nat} {a b c : Expr} {f h q : Ev} {pos p p2 : Pos} {φ : List Addr} {m : Mem} {H : Hp} {lo hi : Option Expr}
/-! slices -/
def rSLD (g : Gc) (E : EX) : V → Option Int → Option Int → Hp → VK → Prop := fun x lo hi H Q => ∃ φ m d, RM g φ m H ∧ Rp g.K φ H d x ∧ KX g E (slD d lo hi m) φ H Q
theorem cut_rel {K : PySem.W.Frag} {ds : List D} {xs : List V} (r : RpA K φ H ds xs) (lo hi : Option Int) : RpA K φ H (cutD ds lo hi) (cutV xs lo hi) := by
  unfold cutD cutV
  rw [← r.length]
  exact (r.drop _).take _
theorem sl_D (cc : Cok X g k) : SlR X (rSLD g E) := by
  intro pins s σ H x v vl vu lo hi sl Q I rx hs pl pu ⟨φ, m, d, hm, hd, hk⟩
  cases d <;> try exact hk.elim
  · rename_i ds
    obtain ⟨a, xs, rfl, h1, h2⟩ := hd
    have st := sl_tupA (X := X)
    rw [cc.K] at st
    refine st pins s σ H _ v vl vu lo hi sl Q I rx hs pl pu ⟨a, xs, rfl, h1, fun hw => ?_, fun _ => KX.tup hm (cut_rel h2 lo hi) hk⟩
    refine hk φ H _ Ext.refl hm ⟨a, xs, rfl, h1, ?_⟩
    have : cutD ds lo hi = ds := by
      unfold cutD
      rw [h2.length, hw.1, hw.2, List.drop_zero, Nat.sub_zero, ← h2.length, List.take_length]
    rw [this]; exact h2
  · rename_i ds
    obtain ⟨a, xs, rfl, h1, h2⟩ := hd
    have st := sl_list (X := X)
    rw [cc.K] at st
    exact st pins s σ H _ v vl vu lo hi sl Q I rx hs pl pu ⟨a, xs, rfl, h1.sq, KX.lst hm (cut_rel h2 lo hi) hk⟩
  · rename_i n
    simp only [slD] at hk
    split at hk
    · rename_i ds e0
      obtain ⟨a, xs, rfl, n1, h1, h2⟩ := hm.lst_at e0 hd
      have st := sl_list (X := X)
      rw [cc.K] at st
      exact st pins s σ H _ v vl vu lo hi sl Q I rx hs pl pu ⟨a, xs, rfl, SqL.of h1, KX.lst hm (cut_rel h2 lo hi) hk⟩
    · exact hk.elim
/-- a part of a slice -/
def partO (l : Option Ev) (L : Sl) (m : Mem) : Out (Option Int) := match l with
  | none => .ok none m
  | some l => bindO (l L m) fun d m => match d with | .int i => .ok (some i) m | _ => .bad
def slP (f : Ev) (lo hi : Option Ev) : Ev := fun L m => bindO (f L m) fun x m => bindO (partO lo L m) fun l m => bindO (partO hi L m) fun u m => slD x l u m
/-- how a part stands to its denotation -/
def PartOk (X : Cx) (g : Gc) (E : EX) (e : Option Expr) (l : Option Ev) : Prop := PO X e (fun σ H Q => ∃ φ L m, RL g.K φ H L σ ∧ RM g φ m H ∧ match partO l L m with
  | .ok o m' => ∀ φ' H', Ext φ H φ' H' → RM g φ' m' H' → Q o H'
  | .exc c fs m' => ∀ φ' H', Ext φ H φ' H' → RM g φ' m' H' → E c fs φ' H'
  | .bad => False)
theorem PO.weaken {e : Option Expr} {t t' : TO} (h : PO X e t) (w : ∀ σ H Q, t' σ H Q → t σ H Q) : PO X e t' := ⟨fun pins s σ H Q I q => h.run pins s σ H Q I (w σ H Q q)⟩
theorem part_none : PartOk X g E none none := PO.weaken po_none fun σ H Q ⟨φ, L, m, hl, hm, hk⟩ => hk φ H Ext.refl hm
theorem part_some (ha : XP X g E a f) : PartOk X g E (some a) (some f) := PO.weaken (po_some ha) fun σ H Q ⟨φ, L, m, hl, hm, hk⟩ => ⟨φ, L, m, hl, hm, by
  unfold partO at hk
  cases e : f L m with
  | ok d m1 =>
    simp only [e, bindO] at hk
    cases d <;> try exact hk.elim
    exact fun φ' H' v ex hm' hv => ⟨_, hv, hk φ' H' ex hm'⟩
  | exc c fs m1 => simp only [e, bindO] at hk; exact hk
  | bad => simp only [e, bindO] at hk⟩
theorem x_slice (cc : Cok X g k) {l u : Option Ev} (ha : XP X g E a f) (hl : PartOk X g E lo l) (hu : PartOk X g E hi u) : XP X g E (.Subscript a (.Slice lo hi none p2) pos) (slP f l u) :=
  PE.weaken (pe_slice (sl_D (E := E) cc) ha hl hu) fun σ H Q ⟨φ, L, m, hL, hm, hk⟩ => ⟨φ, L, m, hL, hm, KX.mono (KX.bind hk) fun v H1 ⟨d, φ1, m1, ex, hm1, hd, hk1⟩ => ⟨φ1, L, m1, hL.ext hm ex, hm1, by
    cases e : partO l L m1 with
    | ok o m2 =>
      simp only [e, bindO] at hk1
      intro φ2 H2 ex2 hm2
      refine ⟨φ2, L, m2, (hL.ext hm ex).ext hm1 ex2, hm2, ?_⟩
      have hk1 := KX.ext hm2 ex2 hk1
      cases e' : partO u L m2 with
      | ok o' m3 =>
        simp only [e'] at hk1
        intro φ3 H3 ex3 hm3
        exact ⟨φ3, m3, d, hm3, (hd.ext hm1 ex2).ext hm2 ex3, KX.ext hm3 ex3 hk1⟩
      | exc c fs m1 => simp only [e'] at hk1; exact hk1
      | bad => simp only [e'] at hk1; exact hk1.elim
    | exc c fs m1 => simp only [e, bindO] at hk1; exact hk1
    | bad => simp only [e, bindO] at hk1; exact hk1⟩⟩

/-! isinstance with a built-in class -/
inductive Ty where
  | int | bool | str | tuple | list | dict
def Ty.name : Ty → String
  | .int => "int" | .bool => "bool" | .str => "str" | .tuple => "tuple" | .list => "list" | .dict => "dict"
def tyName (m : Mem) : D → Option String
  | .non => some "NoneType"
  | .bl _ => some "bool"
  | .int _ => some "int"
  | .str _ => some "str"
  | .shw _ => some "str"
  | .tup _ => some "tuple"
  | .fl _ => some "list"
  | .ref n => match m[n]? with
    | some (.lst _) => some "list"
    | some (.dic _) => some "dict"
    | _ => none
def tyIs (T : Ty) (m : Mem) (d : D) : Option Bool := match d, T with
  | .non, _ => some false
  | .bl _, .int => some true
  | .bl _, .bool => some true
  | .bl _, _ => some false
  | .int _, .int => some true
  | .int _, _ => some false
  | .str _, .str => some true
  | .str _, _ => some false
  | .shw _, .str => some true
  | .shw _, _ => some false
  | .tup _, .tuple => some true
  | .tup _, _ => some false
  | .fl _, .list => some true
  | .fl _, _ => some false
  | .ref n, T => match m[n]?, T with
    | some (.lst _), .list => some true
    | some (.lst _), _ => some false
    | some (.dic _), .dict => some true
    | some (.dic _), _ => some false
    | _, _ => none
def isiO (T : Ty) (d : D) (m : Mem) : Out D := match tyIs T m d with
  | some b => .ok (.bl b) m
  | none => .bad
def isiF (T : Ty) (f : Ev) : Ev := fun L m => bindO (f L m) (isiO T)
theorem ty_x (hm : RM g φ m H) {d : D} {v : V} {T : Ty} {bb : Bool} (hd : Rp g.K φ H d v) (e : tyIs T m d = some bb) : ∃ t, TyX g.K H v t ∧ PySem.W.kitOne g.K t (.type T.name) = some bb := by
  cases d with
  | non => cases (show v = .non from hd); refine ⟨_, .base .non, ?_⟩; cases e; cases T <;> exact kit_ty (by decide +kernel)
  | bl x => cases (show v = .bl _ from hd); refine ⟨_, .base (.bl x), ?_⟩; cases T <;> cases e <;> exact kit_ty (by decide +kernel)
  | int x => cases (show v = .int _ from hd); refine ⟨_, .base (.int x), ?_⟩; cases T <;> cases e <;> exact kit_ty (by decide +kernel)
  | str x => cases (show v = .str _ from hd); refine ⟨_, .base (.str x), ?_⟩; cases T <;> cases e <;> exact kit_ty (by decide +kernel)
  | shw q => cases (show v = .str q.shown from hd); refine ⟨_, .base (.str q.shown), ?_⟩; cases T <;> cases e <;> exact kit_ty (by decide +kernel)
  | tup ds =>
    obtain ⟨a, xs, rfl, h1, h2⟩ := hd
    have hT : TyX g.K H (.ref a) (.type "tuple") := by
      rcases h1 with (h1 | ⟨o, h1⟩) | ⟨o, its, n, h1, hc, _⟩
      · exact .base (.tup h1)
      · exact .fTuple h1
      · exact .kTuple h1 hc
    refine ⟨_, hT, ?_⟩
    cases T <;> cases e <;> exact kit_ty (by decide +kernel)
  | fl ds =>
    obtain ⟨a, xs, rfl, h1, h2⟩ := hd
    have hT : TyX g.K H (.ref a) (.type "list") := by
      rcases h1 with ⟨o, h1⟩ | ⟨o, its, n, h1, hc, _⟩
      · exact .base (.frz h1)
      · exact .kList h1 hc
    refine ⟨_, hT, ?_⟩
    cases T <;> cases e <;> exact kit_ty (by decide +kernel)
  | ref n =>
    obtain ⟨a, n1, rfl⟩ := hd
    cases q : m[n]? with
    | none => cases T <;> simp [tyIs, q] at e
    | some o =>
      have ro := hm.at_ n o a q n1
      cases o with
      | lst ds =>
        obtain ⟨xs, h1, _⟩ := ro
        refine ⟨_, .base (.lst h1), ?_⟩
        cases T <;> simp [tyIs, q] at e <;> subst e <;> exact kit_ty (by decide +kernel)
      | dic ds =>
        obtain ⟨xs, h1, _⟩ := ro
        refine ⟨_, .base (.dK h1), ?_⟩
        cases T <;> simp [tyIs, q] at e <;> subst e <;> exact kit_ty (by decide +kernel)
      | ins cc ds => cases T <;> simp [tyIs, q] at e
theorem x_isi (cc : Cok X g k) (T : Ty) {x : Str} {pn pt : Pos} (hg : Gl X "isinstance") (hm : X.mg "isinstance" = none) (ht : Gl X x) (htm : X.mg x = none) (hb : bootBuiltins x = some (.type T.name)) (ha : XP X g E a f) (hn : x ≠ "__name__" := by decide) (hdb : (x == ("__debug__" : Str)) = false := by decide)
    (he : starEach [a, .Name x pt] X.env = (false, eval a X.env) :: starEach [.Name x pt] X.env := by rfl) (hbi : bootBuiltins "isinstance" = some (.builtin "isinstance") := by decide +kernel) : XP X g E (.Call (.Name "isinstance" pn) [a, .Name x pt] [] pos) (isiF T f) := by
  have ty : PE X (.Name x pt) (tC (.ty T.name)) := pe_bltn ht htm hb rfl hn hdb
  have is := call_isi (X := X)
  rw [cc.K] at is
  refine PE.weaken (pe_callB is hg hm hbi (pa_cons ha (pa_cons ty pa_nil) he) (he := he)) fun σ H Q ⟨φ, L, m, hl, hm, hk⟩ => ⟨φ, L, m, hl, hm, KX.mono (KX.bind hk) fun v H1 ⟨d, φ1, m1, ex, hm1, hd, hk1⟩ => ?_⟩
  unfold isiO at hk1
  split at hk1
  · rename_i bb e
    obtain ⟨t, h1, h2⟩ := ty_x hm1 hd e
    exact ⟨v, .ty T.name, t, .type T.name, bb, rfl, .ty _, h1, h2, hk1 φ1 H1 _ Ext.refl hm1 rfl⟩
  · exact hk1.elim

/-! repr -/
theorem shown_dict_no : ∀ (n : Nat) (d : D) (p : PyData), pyOf m n d = some p → p.hasDict = false
  | 0, _, _, e => by cases e
  | n + 1, d, p, e => by
    have all : ∀ (ds : List D) (ps : List PyData), ds.mapM (pyOf m n) = some ps → PyData.hasDictAll ps = false := by
      intro ds
      induction ds with
      | nil => intro ps e; simp at e; subst e; rfl
      | cons d ds ih =>
        intro ps e
        rw [List.mapM_cons] at e
        cases e1 : pyOf m n d with
        | none => rw [e1] at e; cases e
        | some q =>
          rw [e1] at e
          cases e2 : ds.mapM (pyOf m n) with
          | none => rw [e2] at e; cases e
          | some qs =>
            rw [e2] at e; cases e
            simp only [PyData.hasDictAll, shown_dict_no n d q e1, ih qs e2, Bool.or_self]
    cases d with
    | non => cases e; rfl
    | bl b => cases e; rfl
    | int i => cases e; rfl
    | str x => cases e; rfl
    | shw q => cases e; rfl
    | tup ds =>
      obtain ⟨ps, e1, rfl⟩ := Option.map_eq_some_iff.mp (show (ds.mapM (pyOf m n)).map PyData.tuple = some p from e)
      simp only [PyData.hasDict]; exact all ds ps e1
    | fl ds =>
      obtain ⟨ps, e1, rfl⟩ := Option.map_eq_some_iff.mp (show (ds.mapM (pyOf m n)).map PyData.list = some p from e)
      simp only [PyData.hasDict]; exact all ds ps e1
    | ref r =>
      simp only [pyOf] at e
      split at e
      · obtain ⟨ps, e1, rfl⟩ := Option.map_eq_some_iff.mp e
        simp only [PyData.hasDict]; exact all _ ps e1
      · cases e
theorem depth_le : ∀ (n : Nat) (d : D) (p : PyData), pyOf m n d = some p → p.depth ≤ n
  | 0, _, _, e => by cases e
  | n + 1, d, p, e => by
    have all : ∀ (ds : List D) (ps : List PyData), ds.mapM (pyOf m n) = some ps → PyData.depthAll ps ≤ n := by
      intro ds
      induction ds with
      | nil => intro ps e; simp at e; subst e; simp [PyData.depthAll]
      | cons d ds ih =>
        intro ps e
        rw [List.mapM_cons] at e
        cases e1 : pyOf m n d with
        | none => rw [e1] at e; cases e
        | some q =>
          rw [e1] at e
          cases e2 : ds.mapM (pyOf m n) with
          | none => rw [e2] at e; cases e
          | some qs =>
            rw [e2] at e; cases e
            have h1 := depth_le n d q e1
            have h2 := ih qs e2
            simp only [PyData.depthAll]
            omega
    cases d with
    | non => cases e; simp [PyData.depth]
    | bl b => cases e; simp [PyData.depth]
    | int i => cases e; simp [PyData.depth]
    | str x => cases e; simp [PyData.depth]
    | shw q => cases e; simp [PyData.depth]
    | tup ds =>
      obtain ⟨ps, e1, rfl⟩ := Option.map_eq_some_iff.mp (show (ds.mapM (pyOf m n)).map PyData.tuple = some p from e)
      have := all ds ps e1
      simp only [PyData.depth]; omega
    | fl ds =>
      obtain ⟨ps, e1, rfl⟩ := Option.map_eq_some_iff.mp (show (ds.mapM (pyOf m n)).map PyData.list = some p from e)
      have := all ds ps e1
      simp only [PyData.depth]; omega
    | ref r =>
      simp only [pyOf] at e
      split at e
      · obtain ⟨ps, e1, rfl⟩ := Option.map_eq_some_iff.mp e
        have := all _ ps e1
        simp only [PyData.depth]; omega
      · cases e
theorem c_repr (cc : Cok X g k) (gu : X.A.guards = some []) : CallD X g E (.builtin "repr") reprD := by
  intro pins s σ H xs us Q I rx ⟨φ, m, ds, hm, hx, hk⟩
  unfold reprD at hk
  split at hk
  · rename_i d
    obtain ⟨v, rfl, hv⟩ := hx.one
    obtain ⟨u, rfl, ru⟩ := vals1 rx
    split at hk
    · rename_i p e
      split at hk
      · rename_i hc
        simp only [Bool.and_eq_true, decide_eq_true_eq] at hc
        have dp := py_dp hm 40 d p v e hv
        rw [← cc.K] at dp
        obtain ⟨as, rd⟩ := Dp.reads I p v u dp ru
        have hq := hk φ H (.str p.shown) Ext.refl hm rfl
        have hz : p.shown.length ≤ sizeLine := by rw [← lim_eq]; exact Nat.le_trans (shown_up p) hc.2
        have hd := depth_le 40 d p e
        have hu := cc.room.units
        cases p with
        | none => cases rd; exact PySem.P.repr_of_none ⟨.str _, H, I.tok _, ⟨_, rfl⟩, hq⟩
        | bool b => cases rd; exact PySem.P.repr_of_bool ⟨.str _, H, I.tok _, ⟨_, rfl⟩, hq⟩
        | int i => cases rd; exact PySem.P.repr_of_int (by simpa [PyData.showable] using hc.1) ⟨.str _, H, I.tok _, ⟨_, rfl⟩, hq⟩
        | str x => cases rd; exact PySem.P.repr_of_str ⟨.str _, H, I.tok _, ⟨_, rfl⟩, hq⟩
        | list ps =>
          cases rd with
          | list h1 h2 h3 h4 =>
            exact repr_of_reads' (.list h1 h2 h3 h4) hc.1 (PyData.noDict_hsm (shown_dict_no 40 d _ e)) gu (by omega) (fun _ _ z => z) (fun h' u tk kp => ⟨.str _, H, I.kept kp, ⟨_, rfl⟩, hq⟩) hz
        | tuple ps =>
          cases rd with
          | tuple h1 h2 h3 h4 =>
            exact repr_of_reads' (.tuple h1 h2 h3 h4) hc.1 (PyData.noDict_hsm (shown_dict_no 40 d _ e)) gu (by omega) (fun _ _ z => z) (fun h' u tk kp => ⟨.str _, H, I.kept kp, ⟨_, rfl⟩, hq⟩) hz
        | dict kvs => cases dp
      · exact hk.elim
    · exact hk.elim
  · exact hk.elim
end
end
end Core

set_option Elab.async false
set_option linter.all false
set_option maxRecDepth 100000
set_option maxHeartbeats 4000000
/-! Targets and statements, while, what a loop walks, for. -/
namespace Core
noncomputable section
open PySem PySem.Spec PyProof.Rows L2

inductive OutS where
  | nx (L : Sl) (m : Mem) | rt (d : D) (m : Mem) | bk (L : Sl) (m : Mem) | ct (L : Sl) (m : Mem) | exc (c : Nat) (fs : List D) (m : Mem) | bad
def bndS {α : Type} (o : Out α) (k : α → Mem → OutS) : OutS := match o with
  | .ok a m => k a m
  | .exc c fs m => .exc c fs m
  | .bad => .bad
abbrev Tr := Sl → Mem → OutS
def KS (g : Gc) (E : EX) (o : OutS) (φ : List Addr) (H : Hp) (D : Ends) : Prop := match o with
  | .nx L m => ∀ φ' H' σ', Ext φ H φ' H' → RM g φ' m H' → RL g.K φ' H' L σ' → D.nx σ' H'
  | .rt d m => ∀ φ' H' v, Ext φ H φ' H' → RM g φ' m H' → Rp g.K φ' H' d v → D.rt v H'
  | .bk L m => ∀ φ' H' σ', Ext φ H φ' H' → RM g φ' m H' → RL g.K φ' H' L σ' → D.bk σ' H'
  | .ct L m => ∀ φ' H' σ', Ext φ H φ' H' → RM g φ' m H' → RL g.K φ' H' L σ' → D.ct σ' H'
  | .exc c fs m => ∀ φ' H', Ext φ H φ' H' → RM g φ' m H' → E c fs φ' H'
  | .bad => False
def tS (g : Gc) (E : EX) (f : Tr) : TS := fun D σ H => ∃ φ L m, RL g.K φ H L σ ∧ RM g φ m H ∧ KS g E (f L m) φ H D
abbrev XS (X : Cx) (g : Gc) (E : EX) (st : Stmt) (f : Tr) : Prop := PS X st (tS g E f)
abbrev XSs (X : Cx) (g : Gc) (E : EX) (st : List Stmt) (f : Tr) : Prop := PSs X st (tS g E f)
theorem PS.weaken {X : Cx} {e : Stmt} {t t' : TS} (h : PS X e t) (w : ∀ D σ H, t' D σ H → t D σ H) : PS X e t' := ⟨fun pins s σ H D I q => h.run pins s σ H D I (w D σ H q)⟩
theorem PSs.weaken {X : Cx} {e : List Stmt} {t t' : TS} (h : PSs X e t) (w : ∀ D σ H, t' D σ H → t D σ H) : PSs X e t' := ⟨fun pins s σ H D I q => h.run pins s σ H D I (w D σ H q)⟩
theorem PG.weaken {X : Cx} {e : Expr} {t t' : TG} (h : PG X e t) (w : ∀ v σ H Q, t' v σ H Q → t v σ H Q) : PG X e t' := ⟨fun pins s σ H v u Q I r q => h.run pins s σ H v u Q I r (w v σ H Q q)⟩
theorem PGs.weaken {X : Cx} {e : List Expr} {t t' : TGs} (h : PGs X e t) (w : ∀ v σ H Q, t' v σ H Q → t v σ H Q) : PGs X e t' := ⟨fun pins s σ H v u Q I r q => h.run pins s σ H v u Q I r (w v σ H Q q)⟩

/-! denotations -/
def nxT : Tr := fun L m => .nx L m
def seqT (f h : Tr) : Tr := fun L m => match f L m with
  | .nx L m => h L m
  | .rt d m => .rt d m
  | .bk L m => .bk L m
  | .ct L m => .ct L m
  | .exc c fs m => .exc c fs m
  | .bad => .bad
def retT (f : Ev) : Tr := fun L m => bndS (f L m) fun d m => .rt d m
def retN : Tr := fun _ m => .rt .non m
def ifT (c : Evb) (f h : Tr) : Tr := fun L m => bndS (c L m) fun b m => if b then f L m else h L m
def exprT (f : Ev) : Tr := fun L m => bndS (f L m) fun _ m => .nx L m
def bkT : Tr := fun L m => .bk L m
def ctT : Tr := fun L m => .ct L m
def neverT : Tr := fun _ _ => .bad
/-- a target: the slots behind -/
abbrev Tg := D → Sl → Mem → Out Sl
abbrev Tgs := List D → Sl → Mem → Out Sl
def gN (i : Nat) : Tg := fun d L m => frcD d fun d => setK L i (some d) fun L => .ok L m
theorem gN_eq {i : Nat} {d : D} {L : Sl} {m : Mem} : gN i d L m = .ok (L.set i (some d)) m := by
  show frcD d (fun d => setK L i (some d) fun L => Out.ok L m) = _
  rw [frcD_eq, setK_eq]
def gnil : Tgs := fun ds L m => match ds with | [] => .ok L m | _ => .bad
def gcons (t : Tg) (u : Tgs) : Tgs := fun ds L m => match ds with | d :: r => bindO (t d L m) fun L m => u r L m | [] => .bad
def gT (n : Nat) (u : Tgs) : Tg := fun d L m => match d with
  | .tup ds => if ds.length = n then u ds L m else .bad
  | _ => .bad
def setD (o i v : D) (m : Mem) : Out Unit := match o, i with
  | .ref n, .int k => match m[n]? with
    | some (.lst ds) => match ixN ds.length k with
      | some j => setK ds j v fun ds => setK m n (.lst ds) fun m => .ok () m
      | none => .bad
    | _ => .bad
  | _, _ => .bad
def gS (f h : Ev) : Tg := fun d L m => bindO (f L m) fun o m => bindO (h L m) fun i m => bindO (setD o i d m) fun _ m => .ok L m
def asgT (f : Ev) (t : Tg) : Tr := fun L m => bndS (f L m) fun d m => bndS (t d L m) fun L m => .nx L m
def setT (i : Nat) (f : Ev) : Tr := fun L m => bndS (f L m) fun d m => setK L i (some d) fun L => .nx L m
def parT (is : List Nat) (f : Evs) : Tr := fun L m => bndS (f L m) fun ds m => if ds.length = is.length then frcL ((is.zip ds).foldl (fun L p => L.set p.1 (some p.2)) L) fun L => .nx L m else .bad
def whileGo (c : Evb) (b : Tr) : Nat → Tr
  | 0 => fun _ _ => .bad
  | n + 1 => fun L m => bndS (c L m) fun t m => if t then match b L m with
      | .nx L m => whileGo c b n L m
      | .ct L m => whileGo c b n L m
      | .bk L m => .nx L m
      | .rt d m => .rt d m
      | .exc c fs m => .exc c fs m
      | .bad => .bad
    else .nx L m
def whileT (n : Nat) (c : Evb) (b : Tr) : Tr := whileGo c b n

section
variable {X : Cx} {g : Gc} {E : EX} {k : Nat} {a b : Expr} {f h q : Ev} {tc : Evb} {t u : Tr} {pos p : Pos} {φ φ1 : List Addr} {m m1 : Mem} {H H1 : Hp} {st : Stmt} {rest : List Stmt} {D : Ends}
theorem KS.ext {o : OutS} (r : RM g φ1 m1 H1) (x : Ext φ H φ1 H1) (kk : KS g E o φ H D) : KS g E o φ1 H1 D := by
  cases o with
  | nx L m => exact fun φ' H' σ' y => kk φ' H' σ' (x.trans r y)
  | rt L m => exact fun φ' H' σ' y => kk φ' H' σ' (x.trans r y)
  | bk L m => exact fun φ' H' σ' y => kk φ' H' σ' (x.trans r y)
  | ct L m => exact fun φ' H' σ' y => kk φ' H' σ' (x.trans r y)
  | exc c fs m => exact fun φ' H' y => kk φ' H' (x.trans r y)
  | bad => exact kk
theorem KX.bindT {o : Out Core.D} {kk : Core.D → Mem → OutS} (hh : KS g E (bndS o kk) φ H D) :
    KX g E o φ H (fun v H1 => ∃ d φ1 m1, Ext φ H φ1 H1 ∧ RM g φ1 m1 H1 ∧ Rp g.K φ1 H1 d v ∧ KS g E (kk d m1) φ1 H1 D) := by
  cases o with
  | ok d m => exact fun φ' H' v y r' q => ⟨d, φ', m, y, r', q, KS.ext r' y hh⟩
  | exc c fs m => exact hh
  | bad => exact hh
theorem KXs.bindT {o : Out (List Core.D)} {kk : List Core.D → Mem → OutS} (hh : KS g E (bndS o kk) φ H D) :
    KXs g E o φ H (fun v H1 => ∃ d φ1 m1, Ext φ H φ1 H1 ∧ RM g φ1 m1 H1 ∧ RpA g.K φ1 H1 d v ∧ KS g E (kk d m1) φ1 H1 D) := by
  cases o with
  | ok d m => exact fun φ' H' v y r' q => ⟨d, φ', m, y, r', q, KS.ext r' y hh⟩
  | exc c fs m => exact hh
  | bad => exact hh
theorem KXb.bindT {o : Out Bool} {kk : Bool → Mem → OutS} (hh : KS g E (bndS o kk) φ H D) :
    KXb g E o φ H (fun v H1 => ∃ φ1 m1, Ext φ H φ1 H1 ∧ RM g φ1 m1 H1 ∧ KS g E (kk v m1) φ1 H1 D) := by
  cases o with
  | ok d m => exact fun φ' H' y r' => ⟨φ', m, y, r', KS.ext r' y hh⟩
  | exc c fs m => exact hh
  | bad => exact hh
theorem KXb.mono {o : Out Bool} {Q Q' : Bool → Hp → Prop} (kk : KXb g E o φ H Q) (hh : ∀ v H', Q v H' → Q' v H') : KXb g E o φ H Q' := by
  cases o with
  | ok d m => exact fun φ' H' y r' => hh _ _ (kk φ' H' y r')
  | exc c fs m => exact kk
  | bad => exact kk
theorem s_nil : XSs X g E [] nxT := PSs.weaken pss_nil fun D σ H ⟨φ, L, m, hl, hm, hk⟩ => hk φ H σ Ext.refl hm hl
theorem s_cons (h1 : XS X g E st t) (h2 : XSs X g E rest u) : XSs X g E (st :: rest) (seqT t u) :=
  PSs.weaken (pss_cons h1 h2) fun D σ H ⟨φ, L, m, hl, hm, hk⟩ => ⟨φ, L, m, hl, hm, by
    unfold seqT at hk
    cases e : t L m with
    | nx L' m' =>
      rw [e] at hk
      exact fun φ' H' σ' ex hm' hl' => ⟨φ', L', m', hl', hm', KS.ext hm' ex hk⟩
    | rt L' m' => rw [e] at hk; exact hk
    | bk L' m' => rw [e] at hk; exact hk
    | ct L' m' => rw [e] at hk; exact hk
    | exc c fs m' => rw [e] at hk; exact hk
    | bad => rw [e] at hk; exact hk⟩
theorem s_one (h1 : XS X g E st t) : XSs X g E [st] t := pss_one h1
theorem s_never : XS X g E st neverT := PS.weaken ps_never fun D σ H ⟨φ, L, m, hl, hm, hk⟩ => hk
theorem s_pass : XS X g E (.Pass pos) nxT := PS.weaken ps_pass fun D σ H ⟨φ, L, m, hl, hm, hk⟩ => hk φ H σ Ext.refl hm hl
theorem s_bk : XS X g E (.Break pos) bkT := PS.weaken ps_break fun D σ H ⟨φ, L, m, hl, hm, hk⟩ => hk φ H σ Ext.refl hm hl
theorem s_ct : XS X g E (.Continue pos) ctT := PS.weaken ps_continue fun D σ H ⟨φ, L, m, hl, hm, hk⟩ => hk φ H σ Ext.refl hm hl
theorem s_ret (ha : XP X g E a f) : XS X g E (.Return (some a) pos) (retT f) :=
  PS.weaken (ps_ret ha) fun D σ H ⟨φ, L, m, hl, hm, hk⟩ => ⟨φ, L, m, hl, hm, KX.mono (KX.bindT hk) fun v H1 ⟨d, φ1, m1, ex, hm1, hd, hk1⟩ => hk1 φ1 H1 v Ext.refl hm1 hd⟩
theorem s_retN : XS X g E (.Return none pos) retN := PS.weaken ps_retN fun D σ H ⟨φ, L, m, hl, hm, hk⟩ => hk φ H _ Ext.refl hm rfl
theorem s_expr (ha : XP X g E a f) (hs : swapsWith a none pos.line X.env = pure false := by rfl) : XS X g E (.Expr a pos) (exprT f) :=
  PS.weaken (ps_expr ha hs) fun D σ H ⟨φ, L, m, hl, hm, hk⟩ => ⟨φ, L, m, hl, hm, KX.mono (KX.bindT hk) fun v H1 ⟨d, φ1, m1, ex, hm1, hd, hk1⟩ => hk1 φ1 H1 σ Ext.refl hm1 (hl.ext hm ex)⟩
theorem s_if {A B : List Stmt} (hc : XPb X g E a tc) (ha : XSs X g E A t) (hb : XSs X g E B u) : XS X g E (.If a A B pos) (ifT tc t u) :=
  PS.weaken (ps_if hc ha hb) fun D σ H ⟨φ, L, m, hl, hm, hk⟩ => ⟨φ, L, m, hl, hm, KXb.mono (KXb.bindT hk) fun bb H1 ⟨φ1, m1, ex, hm1, hk1⟩ => by
    cases bb with
    | true => rw [if_pos rfl]; exact ⟨φ1, L, m1, hl.ext hm ex, hm1, hk1⟩
    | false => rw [if_neg Bool.false_ne_true]; exact ⟨φ1, L, m1, hl.ext hm ex, hm1, hk1⟩⟩
/-- name = value -/
theorem s_set (cc : Cok X g k) (i : Nat) {x : Str} {pos' : Pos} (ha : XP X g E a f) (hi : X.N[i]? = some x := by rfl) (hx : Loc X.env.scope x := by first | exact Or.inl rfl | exact Or.inr rfl)
    (hs : swapsWith a (some (.Name x pos')) pos.line X.env = pure false := by rfl) (hf : X.fn x = true ∨ X.env.scope.names.lookup x = some .local := by first | exact .inl rfl | exact .inr rfl) : XS X g E (.Assign [.Name x pos'] a pos) (setT i f) :=
  PS.weaken (ps_set cc.nd hi hx ha hs hf) fun D σ H ⟨φ, L, m, hl, hm, hk⟩ => ⟨φ, L, m, hl, hm, KX.mono (KX.bindT hk) fun v H1 ⟨d, φ1, m1, ex, hm1, hd, hk1⟩ => by
    rw [setK_eq] at hk1
    exact hk1 φ1 H1 _ Ext.refl hm1 ((hl.ext hm ex).set hd)⟩
/-! targets -/
def KG (g : Gc) (E : EX) (o : Out Sl) (φ : List Addr) (H : Hp) (Q : L2.St → Hp → Prop) : Prop := match o with
  | .ok L m => ∀ φ' H' σ', Ext φ H φ' H' → RM g φ' m H' → RL g.K φ' H' L σ' → Q σ' H'
  | .exc c fs m => ∀ φ' H', Ext φ H φ' H' → RM g φ' m H' → E c fs φ' H'
  | .bad => False
theorem KG.ext {o : Out Sl} {Q : L2.St → Hp → Prop} (r : RM g φ1 m1 H1) (x : Ext φ H φ1 H1) (kk : KG g E o φ H Q) : KG g E o φ1 H1 Q := by
  cases o with
  | ok L m => exact fun φ' H' σ' y => kk φ' H' σ' (x.trans r y)
  | exc c fs m => exact fun φ' H' y => kk φ' H' (x.trans r y)
  | bad => exact kk
def tG (g : Gc) (E : EX) (t : Tg) : TG := fun v σ H Q => ∃ φ L m d, RL g.K φ H L σ ∧ RM g φ m H ∧ Rp g.K φ H d v ∧ KG g E (t d L m) φ H Q
def tGs (g : Gc) (E : EX) (t : Tgs) : TGs := fun v σ H Q => ∃ φ L m d, RL g.K φ H L σ ∧ RM g φ m H ∧ RpA g.K φ H d v ∧ KG g E (t d L m) φ H Q
abbrev XG (X : Cx) (g : Gc) (E : EX) (e : Expr) (t : Tg) : Prop := PG X e (tG g E t)
abbrev XGs (X : Cx) (g : Gc) (E : EX) (e : List Expr) (t : Tgs) : Prop := PGs X e (tGs g E t)
theorem g_name (cc : Cok X g k) (i : Nat) {x : Str} (hi : X.N[i]? = some x := by rfl) (hx : Loc X.env.scope x := by first | exact Or.inl rfl | exact Or.inr rfl)
    (hf : X.fn x = true ∨ X.env.scope.names.lookup x = some .local := by first | exact .inl rfl | exact .inr rfl) : XG X g E (.Name x pos) (gN i) :=
  PG.weaken (pg_name cc.nd hi hx hf) fun v σ H Q ⟨φ, L, m, d, hl, hm, hd, hk⟩ => by
    rw [gN_eq] at hk
    exact hk φ H _ Ext.refl hm (hl.set hd)
theorem g_nil : XGs X g E [] gnil := PGs.weaken pgs_nil fun v σ H Q ⟨φ, L, m, d, hl, hm, hd, hk⟩ => by
  cases d with
  | nil => exact ⟨hd, hk φ H σ Ext.refl hm hl⟩
  | cons _ _ => exact hk.elim
theorem KG.bind {o : Out Sl} {kk : Sl → Mem → Out Sl} {Q : L2.St → Hp → Prop} (hh : KG g E (bindO o kk) φ H Q) :
    KG g E o φ H (fun σ1 H1 => ∃ L1 φ1 m1, Ext φ H φ1 H1 ∧ RM g φ1 m1 H1 ∧ RL g.K φ1 H1 L1 σ1 ∧ KG g E (kk L1 m1) φ1 H1 Q) := by
  cases o with
  | ok d m => exact fun φ' H' v y r' q => ⟨d, φ', m, y, r', q, KG.ext r' y hh⟩
  | exc c fs m => exact hh
  | bad => exact hh
theorem KG.mono {o : Out Sl} {Q Q' : L2.St → Hp → Prop} (kk : KG g E o φ H Q) (hh : ∀ v H', Q v H' → Q' v H') : KG g E o φ H Q' := by
  cases o with
  | ok d m => exact fun φ' H' s' y r' z => hh _ _ (kk φ' H' s' y r' z)
  | exc c fs m => exact kk
  | bad => exact kk
theorem g_cons {e : Expr} {es : List Expr} {tg : Tg} {tgs : Tgs} (h1 : XG X g E e tg) (h2 : XGs X g E es tgs)
    (hs : (assignEach (e :: es) X.env).map (·.2) = assign e X.env :: (assignEach es X.env).map (·.2) := by rfl) : XGs X g E (e :: es) (gcons tg tgs) :=
  PGs.weaken (pgs_cons h1 h2 hs) fun v σ H Q ⟨φ, L, m, d, hl, hm, hd, hk⟩ => by
    cases d with
    | nil => exact hk.elim
    | cons d ds =>
      obtain ⟨v1, r, rfl, hd1, hd2⟩ := hd
      refine ⟨v1, r, rfl, φ, L, m, d, hl, hm, hd1, KG.mono (KG.bind hk) fun σ1 H1 ⟨L1, φ1, m1, ex, hm1, hl1, hk1⟩ => ?_⟩
      exact ⟨φ1, L1, m1, ds, hl1, hm1, hd2.ext hm ex, hk1⟩
theorem g_tup (cc : Cok X g k) {es : List Expr} {kk : Nat} {tgs : Tgs} (n : Nat) (hh : XGs X g E es tgs)
    (hn : (assignEach es X.env).length = n := by rfl) (hst : (assignEach es X.env).findIdx? (·.1) = none := by rfl) : XG X g E (.Tuple es kk pos) (gT n tgs) :=
  PG.weaken (pg_tup cc.calm hh hn hst) fun v σ H Q ⟨φ, L, m, d, hl, hm, hd, hk⟩ => by
    cases d <;> try exact hk.elim
    rename_i ds
    obtain ⟨a, xs, rfl, h1, h2⟩ := hd
    simp only [gT] at hk
    split at hk
    · rename_i hz
      rw [← cc.K] at h1
      exact ⟨a, xs, rfl, h1, by rw [← h2.length]; exact hz, φ, L, m, ds, hl, hm, h2, hk⟩
    · exact hk.elim
def rSetD (g : Gc) (E : EX) : TSet := fun o i v H Q => ∃ φ m do_ di dv, RM g φ m H ∧ Rp g.K φ H do_ o ∧ Rp g.K φ H di i ∧ Rp g.K φ H dv v ∧ match setD do_ di dv m with
  | .ok _ m' => ∀ φ' H', Ext φ H φ' H' → RM g φ' m' H' → Q H'
  | _ => False
theorem set_D : PSet X (rSetD g E) := by
  intro pins s σ H o i v ov iv u Q I ro ri rv ⟨φ, m, do_, di, dv, hm, ho, hi, hv, hk⟩
  cases do_ <;> try exact hk.elim
  cases di <;> try exact hk.elim
  rename_i n kx
  simp only [setD] at hk
  cases e0 : m[n]? with
  | none => simp only [e0] at hk
  | some ob =>
    cases ob with
    | lst ds =>
      simp only [e0] at hk
      obtain ⟨a, xs, rfl, n1, h1, h2⟩ := hm.lst_at e0 ho
      cases e1 : ixN ds.length kx with
      | none => simp only [e1] at hk
      | some j =>
        simp only [e1, setK_eq] at hk
        refine set_list pins s σ H _ i v ov iv u Q I ro ri rv ⟨a, xs, kx, j, rfl, hi, h1, by rw [← h2.length]; exact e1, ?_⟩
        have x : Ext φ H φ (upd H a (.lst (xs.set j v))) := Ext.write (List.mem_of_getElem? n1)
        exact hk φ _ x (hm.write n1 ⟨_, upd_same, (h2.set hv j).ext hm x⟩)
    | dic ds => simp only [e0] at hk
    | ins c ds => simp only [e0] at hk
theorem g_sub {o i : Expr} (ho : XP X g E o f) (hi : XP X g E i h)
    (ha : ∀ v, assign (.Subscript o i pos) X.env v = (do
      let ov ← holding [v] (eval o X.env)
      let iv ← holding [v, ov] (eval i X.env)
      standAt pos
      holding [v, ov, iv] (setItem ov iv v)
      release [v, ov, iv] []) := by intro _; rfl) : XG X g E (.Subscript o i pos) (gS f h) :=
  PG.weaken (pg_sub ho hi (set_D (g := g) (E := E)) ha) fun v σ H Q ⟨φ, L, m, d, hl, hm, hd, hk⟩ => by
    have go : ∀ {α : Type} {o : Out Core.D} {kk : Core.D → Mem → Out Sl}, KG g E (bindO o kk) φ H Q → KX g E o φ H (fun v H1 => ∃ d φ1 m1, Ext φ H φ1 H1 ∧ RM g φ1 m1 H1 ∧ Rp g.K φ1 H1 d v ∧ KG g E (kk d m1) φ1 H1 Q) := by
      intro _ o kk hh
      cases o with
      | ok d m => exact fun φ' H' v y r' q => ⟨d, φ', m, y, r', q, KG.ext r' y hh⟩
      | exc c fs m => exact hh
      | bad => exact hh
    refine ⟨φ, L, m, hl, hm, KX.mono (go (α := Unit) hk) fun ov H1 ⟨od, φ1, m1, ex, hm1, hod, hk1⟩ => ⟨φ1, L, m1, hl.ext hm ex, hm1, ?_⟩⟩
    cases e : h L m1 with
    | ok id m2 =>
      rw [e] at hk1
      intro φ2 H2 iv ex2 hm2 hid
      refine ⟨φ2, m2, od, id, d, hm2, hod.ext hm1 ex2, hid, (hd.ext hm ex).ext hm1 ex2, ?_⟩
      simp only [bindO] at hk1
      have hk2 := KG.ext hm2 ex2 hk1
      cases e2 : setD od id d m2 with
      | ok _ m3 =>
        rw [e2] at hk2
        intro φ3 H3 ex3 hm3
        exact hk2 φ3 H3 σ ex3 hm3 (((hl.ext hm ex).ext hm1 ex2).ext hm2 ex3)
      | exc c fs m3 =>
        exfalso
        clear hk2
        unfold setD at e2
        split at e2
        · split at e2
          · split at e2
            · rw [setK_eq, setK_eq] at e2; cases e2
            · cases e2
          · cases e2
        · cases e2
      | bad => rw [e2] at hk2; exact hk2
    | exc c fs m2 => rw [e] at hk1; exact hk1
    | bad => rw [e] at hk1; exact hk1
theorem s_asg {tg : Expr} {t : Tg} (ha : XP X g E a f) (hg : XG X g E tg t) (hs : swapsWithSole [tg] a pos.line X.env = pure false := by rfl) (hw : swappedStores [tg] a X.env = pure none := by rfl)
    (h1 : (assignEach [tg] X.env).map (·.2) = [assign tg X.env] := by rfl) : XS X g E (.Assign [tg] a pos) (asgT f t) :=
  PS.weaken (ps_asg ha hg hs hw h1) fun D σ H ⟨φ, L, m, hl, hm, hk⟩ => ⟨φ, L, m, hl, hm, KX.mono (KX.bindT hk) fun v H1 ⟨d, φ1, m1, ex, hm1, hd, hk1⟩ => ⟨φ1, L, m1, d, hl.ext hm ex, hm1, hd, by
    cases e : t d L m1 with
    | ok L2 m2 => rw [e] at hk1; exact hk1
    | exc c fs m2 => rw [e] at hk1; exact hk1
    | bad => rw [e] at hk1; exact hk1⟩⟩
theorem s_par2 (cc : Cok X g k) (i j : Nat) {x y : Str} {es : Evs} {px py pt : Pos} {kt k2 pt2} (ha : XPs X g E [a, b] es)
    (hw : swappedStores [.Tuple [.Name x px, .Name y py] kt pt] (.Tuple [a, b] k2 pt2) X.env = pure (some [x, y]))
    (hi : X.N[i]? = some x := by rfl) (hj : X.N[j]? = some y := by rfl) (hij : i ≠ j := by decide)
    (hx : X.env.scope.names.lookup x = some .local := by rfl) (hy : X.env.scope.names.lookup y = some .local := by rfl)
    (hs : swapsWithSole [.Tuple [.Name x px, .Name y py] kt pt] (.Tuple [a, b] k2 pt2) pos.line X.env = pure false := by rfl) :
    XS X g E (.Assign [.Tuple [.Name x px, .Name y py] kt pt] (.Tuple [a, b] k2 pt2) pos) (parT [i, j] es) :=
  PS.weaken (ps_par cc.calm cc.nd hi hj hij hx hy ha hw hs) fun D σ H ⟨φ, L, m, hl, hm, hk⟩ => ⟨φ, L, m, hl, hm, KXs.mono (KXs.bindT hk) fun vs H1 ⟨ds, φ1, m1, ex, hm1, hd, hk1⟩ => by
    split at hk1
    · rename_i hz
      match ds, hz with
      | [d1, d2], _ =>
        obtain ⟨v1, v2, rfl, r1, r2⟩ := hd.two
        rw [frcL_eq] at hk1
        exact ⟨v1, v2, rfl, hk1 φ1 H1 _ Ext.refl hm1 (((hl.ext hm ex).set r1).set r2)⟩
    · exact hk1.elim⟩
/-! while -/
theorem s_while (n : Nat) (hp : PassesOwn (model X.prog X.w) X.A X.env X.xe) {body : List Stmt} (hc : XPb X g E a tc) (hb : XSs X g E body t) : XS X g E (.While a body [] pos) (whileT n tc t) :=
  PS.weaken (ps_while hp hc hb) fun D σ H ⟨φ, L, m, hl, hm, hk⟩ => by
    refine ⟨fun n σ' H' => ∃ φ' L' m', RL g.K φ' H' L' σ' ∧ RM g φ' m' H' ∧ KS g E (whileGo tc t n L' m') φ' H' D, ⟨n, φ, L, m, hl, hm, hk⟩, ?_⟩
    rintro nn σ' H' ⟨φ', L', m', hl', hm', hk'⟩
    cases nn with
    | zero => exact hk'.elim
    | succ nn =>
      refine ⟨φ', L', m', hl', hm', KXb.mono (KXb.bindT hk') fun bb H1 ⟨φ1, m1, ex, hm1, hk1⟩ => ?_⟩
      cases bb with
      | false =>
        rw [if_neg Bool.false_ne_true] at hk1 ⊢
        exact hk1 φ1 H1 σ' Ext.refl hm1 (hl'.ext hm' ex)
      | true =>
        rw [if_pos rfl] at hk1 ⊢
        refine ⟨fun σ2 H2 => ∃ φ2 L2 m2, RL g.K φ2 H2 L2 σ2 ∧ RM g φ2 m2 H2 ∧ KS g E (whileGo tc t nn L2 m2) φ2 H2 D, fun σ2 H2 q => ⟨nn, Nat.lt_succ_self _, q⟩, φ1, L', m1, hl'.ext hm' ex, hm1, ?_⟩
        cases e : t L' m1 with
        | nx L2 m2 => rw [e] at hk1; exact fun φ2 H2 σ2 ex2 hm2 hl2 => ⟨φ2, L2, m2, hl2, hm2, KS.ext hm2 ex2 hk1⟩
        | ct L2 m2 => rw [e] at hk1; exact fun φ2 H2 σ2 ex2 hm2 hl2 => ⟨φ2, L2, m2, hl2, hm2, KS.ext hm2 ex2 hk1⟩
        | bk L2 m2 => rw [e] at hk1; exact hk1
        | rt d m2 => rw [e] at hk1; exact hk1
        | exc c fs m2 => rw [e] at hk1; exact hk1
        | bad => rw [e] at hk1; exact hk1
end
end
end Core

set_option Elab.async false
set_option linter.all false
set_option maxRecDepth 100000
set_option maxHeartbeats 4000000
/-! What a loop walks; for; list comprehensions. -/
namespace Core
noncomputable section
open PySem PySem.Spec PyProof.Rows L2

/-- what is walked: known items; or items told turn by turn by the memory (none: stuck; some none: the end), with a bound of turns -/
inductive Src where
  | st (ds : List D)
  | dy (it : Nat → Mem → Option (Option D)) (n : Nat)
def Src.at (s : Src) (i : Nat) (m : Mem) : Option (Option D) := match s with
  | .st ds => some ds[i]?
  | .dy it _ => it i m
def forL (t : Tg) (b : Tr) : List D → Tr
  | [] => nxT
  | d :: r => fun L m => bndS (t d L m) fun L m => match b L m with
    | .nx L m => forL t b r L m
    | .ct L m => forL t b r L m
    | .bk L m => .nx L m
    | .rt d m => .rt d m
    | .exc c fs m => .exc c fs m
    | .bad => .bad
def forD (t : Tg) (b : Tr) (it : Nat → Mem → Option (Option D)) : Nat → Nat → Tr
  | 0, _ => fun _ _ => .bad
  | n + 1, i => fun L m => match it i m with
    | none => .bad
    | some none => .nx L m
    | some (some d) => bndS (t d L m) fun L m => match b L m with
      | .nx L m => forD t b it n (i + 1) L m
      | .ct L m => forD t b it n (i + 1) L m
      | .bk L m => .nx L m
      | .rt d m => .rt d m
      | .exc c fs m => .exc c fs m
      | .bad => .bad
def forT (s : Sl → Mem → Out Src) (t : Tg) (b : Tr) : Tr := fun L m => bndS (s L m) fun s m => match s with
  | .st ds => forL t b ds L m
  | .dy it n => forD t b it n 0 L m
theorem forL_eq (t : Tg) (b : Tr) (ds : List D) : ∀ (r : List D) (i : Nat), ds.drop i = r → forL t b r = forD t b (fun i _ => some ds[i]?) (r.length + 1) i
  | [], i, e => by
    have h : ds[i]? = none := by
      rw [List.getElem?_eq_none_iff]
      have := congrArg List.length e
      rw [List.length_drop] at this
      simp at this; omega
    funext L m
    simp [forL, forD, nxT, h]
  | d :: r, i, e => by
    have h : ds[i]? = some d := by
      have := congrArg (·[0]?) e
      simpa using this
    have h2 : ds.drop (i + 1) = r := by
      rw [← List.tail_drop, e]; rfl
    funext L m
    simp only [forL, forD, h, List.length_cons, forL_eq t b ds r (i + 1) h2]

section
variable {X : Cx} {g : Gc} {E : EX} {k : Nat} {a b : Expr} {f h q : Ev} {tc : Evb} {t u : Tr} {pos p : Pos} {φ φ0 φ1 : List Addr} {m m1 : Mem} {H H0 H1 : Hp} {tg : Expr}
/-- how what HandS walks stands to it -/
def Link (g : Gc) (φ0 : List Addr) (H0 : Hp) (J : It) (it : Nat → Mem → Option (Option D)) : Prop := ∀ i φ m H, Ext φ0 H0 φ H → RM g φ m H →
  (it i m = some none → J.stop i H) ∧ ∀ d, it i m = some (some d) → J.go i H ∧ ∀ x H', J.yld i H x H' → Ext φ H φ H' ∧ RM g φ m H' ∧ Rp g.K φ H' d x
def KI (g : Gc) (E : EX) (o : Out Src) (φ : List Addr) (H : Hp) (R : It → Hp → Prop) : Prop := match o with
  | .ok s m => ∀ φ' H' J, Ext φ H φ' H' → RM g φ' m H' → Link g φ' H' J s.at → R J H'
  | .exc c fs m => ∀ φ' H', Ext φ H φ' H' → RM g φ' m H' → E c fs φ' H'
  | .bad => False
abbrev Evi := Sl → Mem → Out Src
def tI (g : Gc) (E : EX) (f : Evi) : TI := fun σ H R => ∃ φ L m, RL g.K φ H L σ ∧ RM g φ m H ∧ KI g E (f L m) φ H R
abbrev XI (X : Cx) (g : Gc) (E : EX) (tg e : Expr) (f : Evi) : Prop := PI X tg e (tI g E f)
theorem PI.weaken {e : Expr} {t t' : TI} (h : PI X tg e t) (w : ∀ σ H R, t' σ H R → t σ H R) : PI X tg e t' := ⟨fun pins s σ H R I q => h.run pins s σ H R I (w σ H R q)⟩
theorem KI.ext {o : Out Src} {R : It → Hp → Prop} (r : RM g φ1 m1 H1) (x : Ext φ H φ1 H1) (kk : KI g E o φ H R) : KI g E o φ1 H1 R := by
  cases o with
  | ok L m => exact fun φ' H' J y => kk φ' H' J (x.trans r y)
  | exc c fs m => exact fun φ' H' y => kk φ' H' (x.trans r y)
  | bad => exact kk
theorem for_go {it : Nat → Mem → Option (Option D)} {J : It} {tgt : Tg} {D : Ends} {n : Nat} {σ : L2.St} {L : Sl} (lk : Link g φ0 H0 J it) (ex0 : Ext φ0 H0 φ H) (hl : RL g.K φ H L σ) (hm : RM g φ m H) (hk : KS g E (forD tgt t it n 0 L m) φ H D) :
    ∃ W : Nat → Nat → L2.St → Hp → Prop, (∃ m, W 0 m σ H) ∧ ∀ i m σ H, W i m σ H →
      (J.stop i H ∧ D.nx σ H) ∨ (J.go i H ∧ ∃ N : L2.St → Hp → Prop, (∀ σ' H', N σ' H' → ∃ m', m' < m ∧ W (i + 1) m' σ' H') ∧ ∀ x H', J.yld i H x H' → tG g E tgt x σ H' fun σ2 H2 => tS g E t { D with nx := N, ct := N, bk := D.nx } σ2 H2) := by
  refine ⟨fun i nn σ' H' => ∃ φ' L' m', Ext φ0 H0 φ' H' ∧ RL g.K φ' H' L' σ' ∧ RM g φ' m' H' ∧ KS g E (forD tgt t it nn i L' m') φ' H' D, ⟨n, φ, L, m, ex0, hl, hm, hk⟩, ?_⟩
  rintro i nn σ' H' ⟨φ', L', m', ex', hl', hm', hk'⟩
  obtain ⟨l1, l2⟩ := lk i φ' m' H' ex' hm'
  cases nn with
  | zero => exact hk'.elim
  | succ nn =>
    simp only [forD] at hk'
    cases e : it i m' with
    | none => simp only [e] at hk'; exact hk'.elim
    | some o =>
      cases o with
      | none =>
        simp only [e] at hk'
        exact .inl ⟨l1 e, hk' φ' H' σ' Ext.refl hm' hl'⟩
      | some d =>
        simp only [e] at hk'
        obtain ⟨hgo, hy⟩ := l2 d e
        refine .inr ⟨hgo, fun σ2 H2 => ∃ φ2 L2 m2, Ext φ0 H0 φ2 H2 ∧ RL g.K φ2 H2 L2 σ2 ∧ RM g φ2 m2 H2 ∧ KS g E (forD tgt t it nn (i + 1) L2 m2) φ2 H2 D, fun σ2 H2 q => ⟨nn, Nat.lt_succ_self _, q⟩, fun x H2 yy => ?_⟩
        obtain ⟨ex2, hm2, hd⟩ := hy x H2 yy
        have ex02 := ex'.trans hm' ex2
        refine ⟨φ', L', m', d, hl'.ext hm' ex2, hm2, hd, ?_⟩
        have hk2 := KS.ext hm2 ex2 hk'
        cases e2 : tgt d L' m' with
        | exc c fs m3 => rw [e2] at hk2; exact hk2
        | bad => rw [e2] at hk2; exact hk2
        | ok L3 m3 =>
          rw [e2] at hk2
          have hk2 : KS g E (match t L3 m3 with
            | .nx L m => forD tgt t it nn (i + 1) L m
            | .ct L m => forD tgt t it nn (i + 1) L m
            | .bk L m => .nx L m
            | .rt d m => .rt d m
            | .exc c fs m => .exc c fs m
            | .bad => .bad) φ' H2 D := hk2
          intro φ3 H3 σ3 ex3 hm3 hl3
          have ex03 := ex02.trans hm2 ex3
          have hk3 := KS.ext hm3 ex3 hk2
          refine ⟨φ3, L3, m3, hl3, hm3, ?_⟩
          cases e3 : t L3 m3 with
          | nx L4 m4 => rw [e3] at hk3; exact fun φ4 H4 σ4 ex4 hm4 hl4 => ⟨φ4, L4, m4, ex03.trans hm3 ex4, hl4, hm4, KS.ext hm4 ex4 hk3⟩
          | ct L4 m4 => rw [e3] at hk3; exact fun φ4 H4 σ4 ex4 hm4 hl4 => ⟨φ4, L4, m4, ex03.trans hm3 ex4, hl4, hm4, KS.ext hm4 ex4 hk3⟩
          | bk L4 m4 => rw [e3] at hk3; exact hk3
          | rt d4 m4 => rw [e3] at hk3; exact hk3
          | exc c fs m4 => rw [e3] at hk3; exact hk3
          | bad => rw [e3] at hk3; exact hk3
theorem s_for (cc : Cok X g k) {iter : Expr} {src : Evi} {tgt : Tg} {body : List Stmt} (hp : PassesOwn (model X.prog X.w) X.A X.env X.xe) (hi : XI X g E tg iter src) (hg : XG X g E tg tgt) (hb : XSs X g E body t)
    (hs : ∀ x, foldedSetIterable iter X.env x = pure x := by intro _; rfl) : XS X g E (.For tg iter body [] pos) (forT src tgt t) :=
  PS.weaken (ps_for hp cc.calm hi hg hb hs) fun D σ H ⟨φ, L, m, hl, hm, hk⟩ => ⟨φ, L, m, hl, hm, by
    unfold forT at hk
    cases e : src L m with
    | exc c fs m1 => rw [e] at hk; exact hk
    | bad => rw [e] at hk; exact hk
    | ok s m1 =>
      rw [e] at hk
      intro φ1 H1 J ex hm1 lk
      have hk1 := KS.ext hm1 ex hk
      cases s with
      | st ds =>
        have hk1 : KS g E (forL tgt t ds L m1) φ1 H1 D := hk1
        rw [forL_eq tgt t ds ds 0 rfl] at hk1
        exact for_go lk Ext.refl (hl.ext hm ex) hm1 hk1
      | dy it n => exact for_go lk Ext.refl (hl.ext hm ex) hm1 hk1⟩

/-! what is walked -/
def lstAt (n : Nat) : Nat → Mem → Option (Option D) := fun i m => match m[n]? with
  | some (.lst ds) => some ds[i]?
  | _ => none
def seqO (d : D) (m : Mem) : Out Src := match d with
  | .tup ds => .ok (.st ds) m
  | .fl ds => .ok (.st ds) m
  | .ref n => match m[n]? with
    | some (.lst ds) => .ok (.dy (lstAt n) (ds.length + 1)) m
    | _ => .bad
  | _ => .bad
def seqI (f : Ev) : Evi := fun L m => bindO (f L m) seqO
theorem link_tup {a : Addr} {xs : List V} {ds : List D} (r0 : RM g φ0 m H0) (h1 : SqT g.K H0 a xs) (h2 : RpA g.K φ0 H0 ds xs) : Link g φ0 H0 (Itt g.K a) (fun i _ => some ds[i]?) := by
  intro i φ m' H ex hm
  have h1' := (ex.stays r0).2.1 a xs h1
  have h2' := RpA.ext r0 ex h2
  refine ⟨fun e => ⟨xs, h1', ?_⟩, fun d e => ?_⟩
  · rw [← h2'.length]
    exact List.getElem?_eq_none_iff.mp (Option.some.inj e)
  · obtain ⟨v, e1, e2⟩ := h2'.get (Option.some.inj e)
    refine ⟨⟨xs, v, h1', e1⟩, fun x H' ⟨eH, hx⟩ => ?_⟩
    subst eH
    have := hx xs h1'
    rw [e1] at this; cases this
    exact ⟨Ext.refl, hm, e2⟩
theorem link_fl {a : Addr} {xs : List V} {ds : List D} (r0 : RM g φ0 m H0) (h1 : SqF g.K H0 a xs) (h2 : RpA g.K φ0 H0 ds xs) : Link g φ0 H0 (Itl g.K a) (fun i _ => some ds[i]?) := by
  intro i φ m' H ex hm
  have h1' := ((ex.stays r0).2.2 a xs h1).sq
  have h2' := RpA.ext r0 ex h2
  refine ⟨fun e => ⟨xs, h1', ?_⟩, fun d e => ?_⟩
  · rw [← h2'.length]
    exact List.getElem?_eq_none_iff.mp (Option.some.inj e)
  · obtain ⟨v, e1, e2⟩ := h2'.get (Option.some.inj e)
    refine ⟨⟨xs, v, h1', e1⟩, fun x H' ⟨eH, hx⟩ => ?_⟩
    subst eH
    have := hx xs h1'
    rw [e1] at this; cases this
    exact ⟨Ext.refl, hm, e2⟩
theorem Ext.at {n : Nat} {a : Addr} (ex : Ext φ0 H0 φ H) (h : φ0[n]? = some a) : φ[n]? = some a := by
  obtain ⟨e, rfl, _⟩ := ex.pre
  rw [List.getElem?_append_left (List.getElem?_eq_some_iff.mp h).1]; exact h
theorem link_lst {n : Nat} {a : Addr} (h1 : φ0[n]? = some a) : Link g φ0 H0 (Itl g.K a) (lstAt n) := by
  intro i φ m' H ex hm
  have h1' := ex.at h1
  refine ⟨fun e => ?_, fun d e => ?_⟩
  · unfold lstAt at e
    split at e
    · rename_i ds e0
      obtain ⟨xs, q1, q2⟩ := hm.at_ n _ a e0 h1'
      exact ⟨xs, SqL.of q1, by rw [← q2.length]; exact List.getElem?_eq_none_iff.mp (Option.some.inj e)⟩
    · cases e
  · unfold lstAt at e
    split at e
    · rename_i ds e0
      obtain ⟨xs, q1, q2⟩ := hm.at_ n _ a e0 h1'
      obtain ⟨v, e1, e2⟩ := q2.get (Option.some.inj e)
      refine ⟨⟨xs, v, SqL.of q1, e1⟩, fun x H' ⟨eH, hx⟩ => ?_⟩
      subst eH
      have := hx xs (SqL.of q1)
      rw [e1] at this; cases this
      exact ⟨Ext.refl, hm, e2⟩
    · cases e
/-- over a value: a list or a tuple -/
theorem pi_seq {l : Expr} {tl : TE} (hl : PE X l tl) : PI X tg l (fun σ H R => tl σ H fun x H1 => ∃ a, x = .ref a ∧ ((∃ xs, SqL X.K H1 a xs ∧ R (Itl X.K a) H1) ∨ ∃ xs, SqT X.K H1 a xs ∧ R (Itt X.K a) H1)) := by
  refine ⟨fun pins s σ H R I hh => thn (hl.run pins s σ H _ I hh) ?_⟩
  rintro v s1 ⟨x, H1, I1, r1, a, rfl, q⟩
  cases r1
  have fr : ∀ b ∈ [s1.heap.objs.size], FpOk X pins H1 b := fun b hb => by
    rw [List.mem_singleton.mp hb]
    exact I1.fpOk (Nat.le_refl _) (I1.hok.fresh (Nat.le_refl _))
  rcases q with ⟨xs, hq, q⟩ | ⟨xs, hq, q⟩
  · obtain ⟨its, rv, pl, _⟩ := I1.list hq
    refine wpAny_pyIter_list pl.isList ⟨_, _, _, _, H1, rfl, I1.kept (t' := s1.toks) fun b o e => Heap.get?_push_of_some _ e, turn_list a _, ?_, fr, q⟩
    exact ⟨_, Heap.get?_push_size _ rfl, rfl, rfl⟩
  · obtain ⟨its, rv, pl, _⟩ := I1.tuple hq
    refine wpAny_pyIter_tuple pl ⟨_, _, _, _, H1, rfl, I1.kept (t' := s1.toks) fun b o e => Heap.get?_push_of_some _ e, turn_tuple a _, ?_, fr, q⟩
    exact ⟨_, Heap.get?_push_size _ rfl, rfl, rfl⟩
theorem i_seq (cc : Cok X g k) (ha : XP X g E a f) : XI X g E tg a (seqI f) := by
  have base := pi_seq (tg := tg) ha
  rw [cc.K] at base
  refine PI.weaken base fun σ H R ⟨φ, L, m, hl, hm, hk⟩ => ⟨φ, L, m, hl, hm, ?_⟩
  unfold seqI at hk
  cases e : f L m with
  | exc c fs m1 => rw [e] at hk; exact hk
  | bad => rw [e] at hk; exact hk
  | ok d m1 =>
    rw [e] at hk
    intro φ1 H1 v ex hm1 hd
    have hk1 := KI.ext hm1 ex hk
    simp only [bindO] at hk1
    cases d <;> try exact hk1.elim
    · obtain ⟨aa, xs, rfl, h1, h2⟩ := hd
      exact ⟨aa, rfl, .inr ⟨xs, h1, hk1 φ1 H1 _ Ext.refl hm1 (link_tup hm1 h1 h2)⟩⟩
    · obtain ⟨aa, xs, rfl, h1, h2⟩ := hd
      exact ⟨aa, rfl, .inl ⟨xs, h1.sq, hk1 φ1 H1 _ Ext.refl hm1 (link_fl hm1 h1 h2)⟩⟩
    · rename_i n
      simp only [seqO] at hk1
      split at hk1
      · rename_i ds e0
        obtain ⟨aa, xs, rfl, n1, h1, h2⟩ := hm1.lst_at e0 hd
        exact ⟨aa, rfl, .inl ⟨xs, SqL.of h1, hk1 φ1 H1 _ Ext.refl hm1 (link_lst n1)⟩⟩
      · exact hk1.elim
/-- ranges -/
def rngL (lo : Int) (n : Nat) (c : Int) : List D := (List.range n).map fun (i : Nat) => D.int (lo + (i : Int) * c)
def fit62 (i : Int) : Bool := decide (-4611686018427387904 ≤ i) && decide (i < 4611686018427387904)
def rng1O (ds : List D) (m : Mem) : Out Src := match ds with
  | [.int j] => if fit62 j then .ok (.st (rngL 0 j.toNat 1)) m else .bad
  | _ => .bad
def rng2O (ds : List D) (m : Mem) : Out Src := match ds with
  | [.int i, .int j] => if fit62 i && fit62 j then .ok (.st (rngL i (j - i).toNat 1)) m else .bad
  | _ => .bad
def srcI (o : List D → Mem → Out Src) (fs : Evs) : Evi := fun L m => bindO (fs L m) o
theorem rng_link {lo : Int} {n : Nat} : Link g φ0 H0 (Itr lo n) (fun i _ => some (rngL lo n 1)[i]?) := by
  intro i φ m' H ex hm
  have len : (rngL lo n 1).length = n := by simp [rngL]
  refine ⟨fun e => ?_, fun d e => ?_⟩
  · have := List.getElem?_eq_none_iff.mp (Option.some.inj e)
    rw [len] at this; exact this
  · have hi : i < n := by
      have := (List.getElem?_eq_some_iff.mp (Option.some.inj e)).1
      rw [len] at this; exact this
    refine ⟨hi, fun x H' ⟨eH, hx⟩ => ?_⟩
    subst eH hx
    have : d = .int (lo + (i : Int)) := by
      have e := Option.some.inj e
      simp only [rngL, List.getElem?_map, List.getElem?_range hi, Option.map_some, Option.some.injEq] at e
      rw [← e, Int.mul_one]
    subst this
    exact ⟨Ext.refl, hm, rfl⟩
theorem pow62n : (2 : Int) ^ 62 = 4611686018427387904 := by decide
theorem fit62_ok {i : Int} (h : fit62 i = true) : -(2 ^ 62) ≤ i ∧ i < 2 ^ 62 := by
  unfold fit62 at h
  rw [pow62n]
  simpa using h
theorem src_go {o : List D → Mem → Out Src} {fs : Evs} {σ : L2.St} {R : It → Hp → Prop} {L : Sl} {Q : List V → Hp → Prop} (hl : RL g.K φ H L σ) (hm : RM g φ m H) (hk : KI g E (srcI o fs L m) φ H R)
    (hq : ∀ ds φ1 m1 H1 vs, Ext φ H φ1 H1 → RM g φ1 m1 H1 → RpA g.K φ1 H1 ds vs → KI g E (o ds m1) φ1 H1 R → Q vs H1) : tXs g E fs σ H Q := by
  refine ⟨φ, L, m, hl, hm, ?_⟩
  unfold srcI at hk
  cases e : fs L m with
  | exc c fs m1 => rw [e] at hk; exact hk
  | bad => rw [e] at hk; exact hk
  | ok ds m1 =>
    rw [e] at hk
    intro φ1 H1 vs ex hm1 hd
    exact hq ds φ1 m1 H1 vs ex hm1 hd (KI.ext hm1 ex hk)
theorem i_rng1 {fs : Evs} (hg : Gl X "range") (hm : X.mg "range" = none) (ha : XPs X g E [a] fs) (hs : starEach [a] X.env = [(false, eval a X.env)] := by rfl) : XI X g E tg (.Call (.Name "range" p) [a] [] pos) (srcI rng1O fs) := by
  refine PI.weaken (pi_range1 hg hm ha hs) fun σ H R ⟨φ, L, m, hl, hm, hk⟩ => src_go hl hm hk fun ds φ1 m1 H1 vs ex hm1 hd hk1 => ?_
  unfold rng1O at hk1
  split at hk1
  · obtain ⟨v, rfl, hv⟩ := hd.one
    cases (show v = .int _ from hv)
    split at hk1
    · rename_i hc
      obtain ⟨c1, c2⟩ := fit62_ok hc
      exact ⟨_, rfl, c1, c2, hk1 φ1 H1 _ Ext.refl hm1 rng_link⟩
    · exact hk1.elim
  · exact hk1.elim
theorem i_rng2 {fs : Evs} (hg : Gl X "range") (hm : X.mg "range" = none) (ha : XPs X g E [a, b] fs) (hs : starEach [a, b] X.env = [(false, eval a X.env), (false, eval b X.env)] := by rfl) (hs2 : starEach [b] X.env = [(false, eval b X.env)] := by rfl) :
    XI X g E tg (.Call (.Name "range" p) [a, b] [] pos) (srcI rng2O fs) := by
  refine PI.weaken (pi_range2 hg hm ha hs hs2) fun σ H R ⟨φ, L, m, hl, hm, hk⟩ => src_go hl hm hk fun ds φ1 m1 H1 vs ex hm1 hd hk1 => ?_
  unfold rng2O at hk1
  split at hk1
  · obtain ⟨v, w, rfl, hv, hw⟩ := hd.two
    cases (show v = .int _ from hv)
    cases (show w = .int _ from hw)
    split at hk1
    · rename_i hc
      rw [Bool.and_eq_true] at hc
      obtain ⟨c1, c2⟩ := fit62_ok hc.1
      obtain ⟨c3, c4⟩ := fit62_ok hc.2
      exact ⟨_, _, rfl, ⟨c1, c2, c3, c4⟩, hk1 φ1 H1 _ Ext.refl hm1 rng_link⟩
    · exact hk1.elim
  · exact hk1.elim

def rng3O (ds : List D) (m : Mem) : Out Src := match ds with
  | [.int i, .int j, .int c] => if decide (c ≠ 0) && decide (c.natAbs < 1073741824) && Builtin.Range.small i j c then
      match Builtin.Range.rangeSize i j c with
      | .ofNat n => .ok (.st (rngL i n c)) m
      | .negSucc _ => .bad
    else .bad
  | _ => .bad
theorem rng_linkC {lo c : Int} {n : Nat} : Link g φ0 H0 (Itc lo c n) (fun i _ => some (rngL lo n c)[i]?) := by
  intro i φ m' H ex hm
  have len : (rngL lo n c).length = n := by simp [rngL]
  refine ⟨fun e => ?_, fun d e => ?_⟩
  · have := List.getElem?_eq_none_iff.mp (Option.some.inj e)
    rw [len] at this; exact this
  · have hi : i < n := by
      have := (List.getElem?_eq_some_iff.mp (Option.some.inj e)).1
      rw [len] at this; exact this
    refine ⟨hi, fun x H' ⟨eH, hx⟩ => ?_⟩
    subst eH hx
    have : d = .int (lo + (i : Int) * c) := by
      have e := Option.some.inj e
      simp only [rngL, List.getElem?_map, List.getElem?_range hi, Option.map_some, Option.some.injEq] at e
      exact e.symm
    subst this
    exact ⟨Ext.refl, hm, rfl⟩
theorem RpA.three {K : PySem.W.Frag} {d e f : D} {xs : List V} (h : RpA K φ H [d, e, f] xs) : ∃ v u w, xs = [v, u, w] ∧ Rp K φ H d v ∧ Rp K φ H e u ∧ Rp K φ H f w := by
  obtain ⟨v, r, rfl, h1, h2⟩ := h
  obtain ⟨u, w, rfl, h3, h4⟩ := h2.two
  exact ⟨v, u, w, rfl, h1, h3, h4⟩
theorem i_rng3 {fs : Evs} (hg : Gl X "range") (hm : X.mg "range" = none) (ha : XPs X g E [a, b, c] fs)
    (hs : starEach [a, b, c] X.env = (false, eval a X.env) :: starEach [b, c] X.env := by rfl) (hpl : (backTo pos (starEach [b, c] X.env)).any (·.1) = false := by rfl) :
    XI X g E tg (.Call (.Name "range" p) [a, b, c] [] pos) (srcI rng3O fs) := by
  refine PI.weaken (pi_range3 hg hm ha hs hpl) fun σ H R ⟨φ, L, m, hl, hm, hk⟩ => src_go hl hm hk fun ds φ1 m1 H1 vs ex hm1 hd hk1 => ?_
  unfold rng3O at hk1
  split at hk1
  · obtain ⟨v, w, z, rfl, hv, hw, hz⟩ := hd.three
    cases (show v = .int _ from hv)
    cases (show w = .int _ from hw)
    cases (show z = .int _ from hz)
    split at hk1
    · rename_i hc
      simp only [Bool.and_eq_true, decide_eq_true_eq] at hc
      split at hk1
      · rename_i n e
        exact ⟨_, _, _, n, rfl, ⟨hc.1.1, hc.1.2, hc.2, e⟩, hk1 φ1 H1 _ Ext.refl hm1 rng_linkC⟩
      · exact hk1.elim
    · exact hk1.elim
  · exact hk1.elim
/-! zip and reversed -/
def pairAt (f h : Nat → Mem → Option (Option D)) : Nat → Mem → Option (Option D) := fun i m => match f i m, h i m with
  | some (some a), some (some b) => some (some (.tup [a, b]))
  | some none, some _ => some none
  | some _, some none => some none
  | _, _ => none
def zipL : List D → List D → List D
  | a :: r, b :: q => .tup [a, b] :: zipL r q
  | _, _ => []
theorem zipL_get : ∀ (r q : List D) (i : Nat), (zipL r q)[i]? = match r[i]?, q[i]? with | some a, some b => some (.tup [a, b]) | _, _ => none
  | [], q, i => by simp [zipL]
  | a :: r, [], i => by simp [zipL]
  | a :: r, b :: q, 0 => by simp [zipL]
  | a :: r, b :: q, i + 1 => by simp [zipL, zipL_get r q i]
def zipO (ds : List D) (m : Mem) : Out Src := match ds with
  | [.tup x, .tup y] => .ok (.st (zipL x y)) m
  | [.ref n, .ref k] => match m[n]?, m[k]? with
    | some (.lst ds), some (.lst es) => .ok (.dy (pairAt (lstAt n) (lstAt k)) (ds.length + 1)) m
    | _, _ => .bad
  | _ => .bad
theorem tup2_new {x y : D} {v w : V} {T : Addr} (hm : RM g φ m H) (hx : Rp g.K φ H x v) (hy : Rp g.K φ H y w) (hT : H T = none) :
    Ext φ H φ (upd H T (.tup [v, w])) ∧ RM g φ m (upd H T (.tup [v, w])) ∧ Rp g.K φ (upd H T (.tup [v, w])) (.tup [x, y]) (.ref T) :=
  ⟨Ext.laid hT, hm.laid hT, T, [v, w], rfl, .inl (.inl upd_same), v, [w], rfl, hx.ext hm (Ext.laid hT), w, [], rfl, hy.ext hm (Ext.laid hT), rfl⟩
theorem link_zipT {aa bb : Addr} {xs ys : List V} {ds es : List D} (r0 : RM g φ0 m H0) (h1 : SqT g.K H0 aa xs) (h2 : RpA g.K φ0 H0 ds xs) (h3 : SqT g.K H0 bb ys) (h4 : RpA g.K φ0 H0 es ys) :
    Link g φ0 H0 (RZ.ItzT g.K aa bb) (fun i _ => some (zipL ds es)[i]?) := by
  intro i φ m' H ex hm
  have h1' := (ex.stays r0).2.1 aa xs h1
  have h2' := RpA.ext r0 ex h2
  have h3' := (ex.stays r0).2.1 bb ys h3
  have h4' := RpA.ext r0 ex h4
  refine ⟨fun e => ?_, fun d e => ?_⟩
  · have e := Option.some.inj e
    rw [zipL_get] at e
    refine ⟨xs, ys, h1', h3', ?_⟩
    rw [← h2'.length, ← h4'.length]
    cases q1 : ds[i]? with
    | none => exact .inl (List.getElem?_eq_none_iff.mp q1)
    | some _ =>
      cases q2 : es[i]? with
      | none => exact .inr (List.getElem?_eq_none_iff.mp q2)
      | some _ => rw [q1, q2] at e; cases e
  · have e := Option.some.inj e
    rw [zipL_get] at e
    cases q1 : ds[i]? with
    | none => rw [q1] at e; cases e
    | some d1 =>
      cases q2 : es[i]? with
      | none => rw [q1, q2] at e; cases e
      | some d2 =>
        rw [q1, q2] at e; cases e
        obtain ⟨v1, e1, r1⟩ := h2'.get q1
        obtain ⟨v2, e2, r2⟩ := h4'.get q2
        refine ⟨⟨xs, ys, v1, v2, h1', h3', e1, e2⟩, ?_⟩
        rintro x H' ⟨T, x1, x2, rfl, hT, rfl, hx, hy⟩
        have w1 := hx xs h1'
        have w2 := hy ys h3'
        rw [e1] at w1; cases w1
        rw [e2] at w2; cases w2
        exact tup2_new hm r1 r2 hT
theorem link_zipL {n kk : Nat} {aa bb : Addr} (h1 : φ0[n]? = some aa) (h3 : φ0[kk]? = some bb) : Link g φ0 H0 (Itz g.K aa bb) (pairAt (lstAt n) (lstAt kk)) := by
  intro i φ m' H ex hm
  have h1' := ex.at h1
  have h3' := ex.at h3
  cases q1 : m'[n]? with
  | none => exact ⟨fun e => by simp [pairAt, lstAt, q1] at e, fun d e => by simp [pairAt, lstAt, q1] at e⟩
  | some o1 =>
    cases o1 with
    | dic _ => exact ⟨fun e => by simp [pairAt, lstAt, q1] at e, fun d e => by simp [pairAt, lstAt, q1] at e⟩
    | ins _ _ => exact ⟨fun e => by simp [pairAt, lstAt, q1] at e, fun d e => by simp [pairAt, lstAt, q1] at e⟩
    | lst ds =>
      cases q2 : m'[kk]? with
      | none => exact ⟨fun e => by (cases q3 : ds[i]? <;> simp [pairAt, lstAt, q1, q2, q3] at e), fun d e => by (cases q3 : ds[i]? <;> simp [pairAt, lstAt, q1, q2, q3] at e)⟩
      | some o2 =>
        cases o2 with
        | dic _ => exact ⟨fun e => by (cases q3 : ds[i]? <;> simp [pairAt, lstAt, q1, q2, q3] at e), fun d e => by (cases q3 : ds[i]? <;> simp [pairAt, lstAt, q1, q2, q3] at e)⟩
        | ins _ _ => exact ⟨fun e => by (cases q3 : ds[i]? <;> simp [pairAt, lstAt, q1, q2, q3] at e), fun d e => by (cases q3 : ds[i]? <;> simp [pairAt, lstAt, q1, q2, q3] at e)⟩
        | lst es =>
          obtain ⟨xs, s1, r1⟩ := hm.at_ n _ aa q1 h1'
          obtain ⟨ys, s2, r2⟩ := hm.at_ kk _ bb q2 h3'
          refine ⟨fun e => ⟨xs, ys, SqL.of s1, SqL.of s2, ?_⟩, fun d e => ?_⟩
          · rw [← r1.length, ← r2.length]
            cases q3 : ds[i]? with
            | none => exact .inl (List.getElem?_eq_none_iff.mp q3)
            | some _ =>
              cases q4 : es[i]? with
              | none => exact .inr (List.getElem?_eq_none_iff.mp q4)
              | some _ => simp [pairAt, lstAt, q1, q2, q3, q4] at e
          · cases q3 : ds[i]? with
            | none => cases q4 : es[i]? <;> simp [pairAt, lstAt, q1, q2, q3, q4] at e
            | some d1 =>
              cases q4 : es[i]? with
              | none => simp [pairAt, lstAt, q1, q2, q3, q4] at e
              | some d2 =>
                simp [pairAt, lstAt, q1, q2, q3, q4] at e
                subst e
                obtain ⟨v1, e1, t1⟩ := r1.get q3
                obtain ⟨v2, e2, t2⟩ := r2.get q4
                refine ⟨⟨xs, ys, v1, v2, SqL.of s1, SqL.of s2, e1, e2⟩, ?_⟩
                rintro x H' ⟨T, x1, x2, rfl, hT, rfl, hx, hy⟩
                have w1 := hx xs (SqL.of s1)
                have w2 := hy ys (SqL.of s2)
                rw [e1] at w1; cases w1
                rw [e2] at w2; cases w2
                exact tup2_new hm t1 t2 hT
theorem i_zip (cc : Cok X g k) {fs : Evs} {elts : List Expr} {kk : Nat} {tpos : Pos} (hg : Gl X "zip") (hm : X.mg "zip" = none) (ha : XPs X g E [a, b] fs)
    (hs : starEach [a, b] X.env = (false, eval a X.env) :: starEach [b] X.env := by rfl) (hpl : (backTo pos (starEach [b] X.env)).any (·.1) = false := by rfl) :
    XI X g E (.Tuple elts kk tpos) (.Call (.Name "zip" p) [a, b] [] pos) (srcI zipO fs) := by
  have base := RZ.pi_zipA (elts := elts) (kk := kk) (tpos := tpos) (p := p) (pos := pos) hg hm ha hs hpl
  rw [cc.K] at base
  refine PI.weaken base fun σ H R ⟨φ, L, m, hl, hm, hk⟩ => src_go hl hm hk fun ds φ1 m1 H1 vs ex hm1 hd hk1 => ?_
  unfold zipO at hk1
  split at hk1
  · obtain ⟨v, w, rfl, hv, hw⟩ := hd.two
    obtain ⟨a1, xs, rfl, h1, h2⟩ := hv
    obtain ⟨a2, ys, rfl, h3, h4⟩ := hw
    exact ⟨a1, a2, xs, ys, rfl, .inr ⟨h1, h3, hk1 φ1 H1 _ Ext.refl hm1 (link_zipT hm1 h1 h2 h3 h4)⟩⟩
  · obtain ⟨v, w, rfl, hv, hw⟩ := hd.two
    split at hk1
    · rename_i e1 e2
      obtain ⟨a1, xs, rfl, n1, h1, h2⟩ := hm1.lst_at e1 hv
      obtain ⟨a2, ys, rfl, n2, h3, h4⟩ := hm1.lst_at e2 hw
      exact ⟨a1, a2, xs, ys, rfl, .inl ⟨SqL.of h1, SqL.of h3, hk1 φ1 H1 _ Ext.refl hm1 (link_zipL n1 n2)⟩⟩
    · exact hk1.elim
  · exact hk1.elim
end
end
end Core

set_option Elab.async false
set_option linter.all false
set_option maxRecDepth 100000
set_option maxHeartbeats 4000000
/-! enumerate and reversed, over lists and tuples. -/
namespace Core
noncomputable section
open PySem PySem.Spec PyProof.Rows L2

theorem enumT_new (t : Addr) (items : Array Value) :
    Meets (Builtin.«enumerate.__new__» ⟨[.type "enumerate", .ref t], []⟩) (fun _ R s => s.heap.IsTuple t items ∧
      R (.ok (.ret (.ref (s.heap.push { cls := .type "tuple_iterator", data := .fields #[.ref t, .int 0 0] }).objs.size)))
        { s with heap := (s.heap.push { cls := .type "tuple_iterator", data := .fields #[.ref t, .int 0 0] }).push { cls := .type "enumerate", data := .fields #[.none, .bool false, .ref s.heap.objs.size, rawInt 0, .none, .none] } }) :=
  .of_wp fun prog w A R s hh => by
    obtain ⟨hp, gn, dr, tk, os⟩ := s
    obtain ⟨ht, hh⟩ := hh
    have hsub := sub_enumerate
    have it : ∀ {A' : Around} {E : Value → Shared → Prop} {Q : Value → Shared → Prop}, Q (.ref hp.objs.size) ⟨hp.push { cls := .type "tuple_iterator", data := .fields #[.ref t, .int 0 0] }, gn, dr, tk, os⟩ → wpAny (model prog w) A' (pyIter (.ref t)) Q E ⟨hp, gn, dr, tk, os⟩ :=
      fun q => wpAny_pyIter_tuple ht q
    wp_walk using it
    refine wpAny_stack_any fun st => wpAny_pure ?_
    split
    · rename_i c _ _ _ _ _
      cases (c == Value.type "enumerate")
      all_goals
        wp_walk using it
        exact ⟨_, rfl, hh⟩
    · wp_walk using it
      exact ⟨_, rfl, hh⟩
/-- the tuple at a, each item in a new pair -/
def IteT (K : PySem.W.Frag) (a : Addr) : It where
  go i H := ∃ (xs : List V) (x : V), SqT K H a xs ∧ xs[i]? = some x
  yld i H v H' := ∃ T x, v = .ref T ∧ H T = none ∧ H' = upd H T (.tup [.int (i : Nat), x]) ∧ ∀ xs, SqT K H a xs → xs[i]? = some x
  stop i H := ∃ xs : List V, SqT K H a xs ∧ xs.length ≤ i
theorem tup_ne {h : Heap} {t b : Addr} {items : Array Value} {o : Obj} (ht : h.IsTuple t items) (hb : h.get? b = some o) (hc : o.cls ≠ .type "tuple") : t ≠ b := by
  rintro rfl
  obtain ⟨ot, e, c, _⟩ := ht
  rw [hb] at e; cases e
  exact hc c
theorem turn_enumT {P : Program} {w : World} {K : PySem.W.Frag} {elts : List Expr} {kk : Nat} {tpos : Pos} (a e it : Addr) :
    Turn P w K (.Tuple elts kk tpos) (IteT K a) [e, it] e (fun i h => (∃ old, IsEnum h e it ((i : Nat) : Int) old) ∧ h.IsTupleIter it a i ∧ e ≠ it) where
  mem := by simp
  obj := by
    rintro i h ⟨⟨old, he⟩, ⟨o, ho, hc, hd⟩, _⟩ b hb
    rcases (by simpa using hb : b = e ∨ b = it) with rfl | rfl
    · exact ⟨_, he, fun v q => nomatch q⟩
    · exact ⟨o, ho, fun v q => by rw [hd] at q; cases q⟩
  keep := by
    rintro i h h' ⟨⟨old, he⟩, hi, hne⟩ kp
    exact ⟨⟨old, kp e (by simp) _ he⟩, hi.at fun o q => kp it (by simp) o q, hne⟩
  item := by
    rintro X rfl rfl rfl hc i pins s σ H E I hf ⟨⟨old, he⟩, hit, hne⟩ ⟨xs, x, hq, hx⟩
    obtain ⟨its, rv, tp, hz⟩ := I.tuple hq
    obtain ⟨u, hu, ru⟩ := rv.get hx
    have hel : e < s.heap.objs.size := Heap.lt_size he
    have hil : it < s.heap.objs.size := by obtain ⟨_, q, _⟩ := hit; exact Heap.lt_size q
    have n1 : a ≠ e := tup_ne tp he (by simp)
    have n2 : a ≠ it := by obtain ⟨o, q, c, _⟩ := hit; exact tup_ne tp q (by rw [c]; decide)
    have hlt : i < its.toArray.size := by
      have := (List.getElem?_eq_some_iff.mp hu).1
      simpa using this
    refine wpAny_pyNext_enum_itemD (Draws.tuple (A := X.A.in1) (I.ok.hd hc) it a n2 its.toArray) he ⟨hit, tp⟩ hlt hne (by simp [hne, Ne.symm n1]) ?_
    intro x' h' tk hx' ho hst' hT hsz hk
    obtain ⟨hit', tp'⟩ := hst'
    have ex : x' = u := by
      have h1 : its[i]? = some x' := by simpa using hx'
      rw [hu] at h1
      exact (Option.some.inj h1).symm
    subst ex
    refine ⟨_, rfl, wpAny_letOwnedTupleGo_enum (s := { s with heap := h', toks := tk + 1 }) ho fun h'' he' sb => ?_⟩
    have hT2 := (sb.2 _ (Nat.ne_of_gt hel)).trans hT
    have new : ObjOk X.prog X.w (upd H s.heap.objs.size (.tup [.int (i : Nat), x])) h'' s.heap.objs.size (.tup [.int (i : Nat), x]) := by
      refine ⟨?_, [.int i tk, x'], .cons ⟨_, rfl⟩ (.cons ru .nil), _, hT2, rfl, _, rfl⟩
      show 2 ≤ sizeLine
      decide
    have I1 := I.turnedNew (h' := h'') (t' := tk + 1) (ch := [e, it]) (fun b ob hb q => (sb.2 b (fun z => hb (by simp [z]))).trans
      (hk b ob (fun z => hb (by simp [z])) (fun z => hb (by simp [z])) q)) hf (Nat.le_refl _) new
    refine ⟨.ref s.heap.objs.size, _, I1, rfl, ⟨_, x, rfl, I.hok.fresh (Nat.le_refl _), rfl, fun ys hy => by rw [I.tuple_inj hy hq]; exact hx⟩, ⟨⟨x', ?_⟩, hit'.at fun o q => (sb.2 it (Ne.symm hne)).trans q, hne⟩, ?_⟩
    · have e1 : ((i + 1 : Nat) : Int) = (i : Int) + 1 := by omega
      rw [e1]; exact he'
    · intro b hb
      have hb' : b < s.heap.objs.size := by
        rcases (by simpa using hb : b = e ∨ b = it) with rfl | rfl
        · exact hel
        · exact hil
      rw [upd_ne (Nat.ne_of_lt hb')]
      exact (hf b hb).1
  done := by
    rintro X rfl rfl rfl hc i pins s σ H E I hf ⟨⟨old, he⟩, hit, hne⟩ ⟨xs, hq, hx⟩
    obtain ⟨its, rv, tp, hz⟩ := I.tuple hq
    obtain ⟨f0, f1, f2, f3, f4, f5⟩ := hf it (by simp)
    have n2 : a ≠ it := by obtain ⟨o, q, c, _⟩ := hit; exact tup_ne tp q (by rw [c]; decide)
    have hle : its.toArray.size ≤ i := by
      have := rv.length
      simp; omega
    have D : Draws X.prog X.w X.A.in1 it [it, a] 0 (fun _ _ => False) (fun _ h => h.IsTupleIter it a i ∧ h.IsTuple a its.toArray) := {
      live := fun _ _ st => let ⟨o, ho, _⟩ := st.1; ⟨o, ho⟩
      frame := fun _ _ _ st kp => ⟨st.1.at fun o q => kp it (by simp) o q, st.2.at fun o q => kp a (by simp) o q⟩
      item := fun _ _ _ _ z => absurd z (Nat.not_lt_zero _)
      done := fun _ _ _ st hE => wpAny_nextOf_tuple_end (I.ok.hd hc) st.1 st.2 (Array.getElem?_eq_none_iff.mpr hle) hE }
    refine wpAny_pyNext_enum_endD D he ⟨hit, tp⟩ fun h' eb => ⟨rfl, ?_⟩
    exact I.turned (t' := s.toks) (fun b o hb q => eb b o hb q) f0 f1 f3 f4 f5
  self := fun A i s Q E st h => let ⟨⟨_, he⟩, _⟩ := st; wpAny_pyIter_enum he h

theorem call_enumT {prog : Program} {w : World} {A : Around} {E : Value → Shared → Prop} {s : Shared} {t : Addr} {items : Array Value} {Q : Value → Shared → Prop} (ht : s.heap.IsTuple t items)
    (hq : ∀ h', IsEnum h' (s.heap.objs.size + 1) s.heap.objs.size 0 .none → h'.IsTupleIter s.heap.objs.size t 0 → (∀ b o, s.heap.get? b = some o → h'.get? b = some o) → Q (.ref (s.heap.objs.size + 1)) { s with heap := h' }) :
    wpAny (model prog w) A (call (.type "enumerate") [.ref t]) Q E s := by
  refine callType_new F.called_enumerate (by decide) (F.typeCall_enumerate_1 _) (F.newCall_enumerate_1 _) (fun obj => F.args_object_init_2 obj _) F.entry_enumerate_new (enumT_new t items) ⟨ht, ?_⟩
  have hz : (s.heap.push { cls := .type "tuple_iterator", data := .fields #[.ref t, .int 0 0] }).objs.size = s.heap.objs.size + 1 := Heap.size_push ..
  show _ ∧ _
  rw [hz]
  have he : IsEnum ((s.heap.push { cls := .type "tuple_iterator", data := .fields #[.ref t, .int 0 0] }).push { cls := .type "enumerate", data := .fields #[.none, .bool false, .ref s.heap.objs.size, rawInt 0, .none, .none] }) (s.heap.objs.size + 1) s.heap.objs.size 0 .none := by
    have := Heap.get?_push_size (s.heap.push { cls := .type "tuple_iterator", data := .fields #[.ref t, .int 0 0] })
      (o := { cls := .type "enumerate", data := .fields #[.none, .bool false, .ref s.heap.objs.size, rawInt 0, .none, .none] }) rfl
    rw [hz] at this
    exact this
  exact ⟨⟨_, he, rfl⟩, hq _ he ⟨_, Heap.get?_push_of_some _ (Heap.get?_push_size _ rfl), rfl, rfl⟩ fun b o x => Heap.get?_push_of_some _ (Heap.get?_push_of_some _ x)⟩
/-- enumerate of a list or a tuple -/
theorem pi_enumA {X : Cx} {e : Expr} {ta : TA} {p pos tpos : Pos} {elts : List Expr} {kk : Nat} (hg : Gl X "enumerate") (hm : X.mg "enumerate" = none) (ha : PA X [e] ta) (hs : starEach [e] X.env = [(false, eval e X.env)] := by rfl) :
    PI X (.Tuple elts kk tpos) (.Call (.Name "enumerate" p) [e] [] pos) (fun σ H R => ta σ H fun vs H1 => ∃ a xs, vs = [.ref a] ∧ ((SqL X.K H1 a xs ∧ R (Ite X.K a) H1) ∨ (SqT X.K H1 a xs ∧ R (IteT X.K a) H1))) := by
  refine ⟨fun pins s σ H R I hh => Call_ (ld_blt I hg hm boot_enumerate (PyProof.Rows.callWith_type1 (thn (ha.run pos pins s σ H _ I hh) ?_) hs rfl))⟩
  rintro us s1 ⟨vs, H1, I1, r1, a, xs, rfl, q⟩
  have hu := Vals.ref1 r1
  subst hu
  have fr : ∀ b ∈ [s1.heap.objs.size + 1, s1.heap.objs.size], FpOk X pins H1 b := fun b hb => by
    have hle : s1.heap.objs.size ≤ b := by
      rcases (by simpa using hb : b = s1.heap.objs.size + 1 ∨ b = s1.heap.objs.size) with rfl | rfl
      · exact Nat.le_succ _
      · exact Nat.le_refl _
    exact I1.fpOk hle (I1.hok.fresh hle)
  rcases q with ⟨hq, q⟩ | ⟨hq, q⟩
  · obtain ⟨its, rv, pl, _⟩ := I1.list hq
    refine call_enumerate_list pl.isList fun h' he hit hsz hk => wpAny_pyIter_enum he ?_
    exact ⟨_, _, _, _, H1, rfl, I1.kept (t' := s1.toks) hk, turn_enum a _ _, ⟨⟨.none, he⟩, hit, Nat.succ_ne_self _⟩, fr, q⟩
  · obtain ⟨its, rv, tp, _⟩ := I1.tuple hq
    refine call_enumT tp fun h' he hit hk => wpAny_pyIter_enum he ?_
    exact ⟨_, _, _, _, H1, rfl, I1.kept (t' := s1.toks) hk, turn_enumT a _ _, ⟨⟨.none, he⟩, hit, Nat.succ_ne_self _⟩, fr, q⟩

def enumL : Nat → List D → List D
  | _, [] => []
  | i, d :: r => .tup [.int (i : Nat), d] :: enumL (i + 1) r
theorem enumL_get : ∀ (ds : List D) (j i : Nat), (enumL j ds)[i]? = (ds[i]?).map fun d => .tup [.int ((j + i : Nat) : Int), d]
  | [], j, i => by simp [enumL]
  | d :: r, j, 0 => by simp [enumL]
  | d :: r, j, i + 1 => by
    simp only [enumL, List.getElem?_cons_succ, enumL_get r (j + 1) i]
    have : j + 1 + i = j + (i + 1) := by omega
    rw [this]
def enumAt (n : Nat) : Nat → Mem → Option (Option D) := fun i m => match m[n]? with
  | some (.lst ds) => some ((ds[i]?).map fun d => .tup [.int (i : Nat), d])
  | _ => none
def enumO (ds : List D) (m : Mem) : Out Src := match ds with
  | [.tup x] => .ok (.st (enumL 0 x)) m
  | [.fl x] => .ok (.st (enumL 0 x)) m
  | [.ref n] => match m[n]? with
    | some (.lst ds) => .ok (.dy (enumAt n) (ds.length + 1)) m
    | _ => .bad
  | _ => .bad
section
variable {X : Cx} {g : Gc} {E : EX} {k : Nat} {a : Expr} {pos p : Pos} {φ φ0 φ1 : List Addr} {m m1 : Mem} {H H0 H1 : Hp} {tg : Expr}
theorem link_enumT {aa : Addr} {xs : List V} {ds : List D} (r0 : RM g φ0 m H0) (h1 : SqT g.K H0 aa xs) (h2 : RpA g.K φ0 H0 ds xs) : Link g φ0 H0 (IteT g.K aa) (fun i _ => some (enumL 0 ds)[i]?) := by
  intro i φ m' H ex hm
  have h1' := (ex.stays r0).2.1 aa xs h1
  have h2' := RpA.ext r0 ex h2
  refine ⟨fun e => ?_, fun d e => ?_⟩
  · have e := Option.some.inj e
    rw [enumL_get] at e
    refine ⟨xs, h1', ?_⟩
    rw [← h2'.length]
    exact List.getElem?_eq_none_iff.mp (Option.map_eq_none_iff.mp e)
  · have e := Option.some.inj e
    rw [enumL_get] at e
    obtain ⟨d1, q1, rfl⟩ := Option.map_eq_some_iff.mp e
    obtain ⟨v1, e1, r1⟩ := h2'.get q1
    refine ⟨⟨xs, v1, h1', e1⟩, ?_⟩
    rintro x H' ⟨T, x1, rfl, hT, rfl, hx⟩
    have w1 := hx xs h1'
    rw [e1] at w1; cases w1
    rw [Nat.zero_add]
    exact tup2_new hm rfl r1 hT
theorem link_enumF {aa : Addr} {xs : List V} {ds : List D} (r0 : RM g φ0 m H0) (h1 : SqF g.K H0 aa xs) (h2 : RpA g.K φ0 H0 ds xs) : Link g φ0 H0 (Ite g.K aa) (fun i _ => some (enumL 0 ds)[i]?) := by
  intro i φ m' H ex hm
  have h1' := ((ex.stays r0).2.2 aa xs h1).sq
  have h2' := RpA.ext r0 ex h2
  refine ⟨fun e => ?_, fun d e => ?_⟩
  · have e := Option.some.inj e
    rw [enumL_get] at e
    refine ⟨xs, h1', ?_⟩
    rw [← h2'.length]
    exact List.getElem?_eq_none_iff.mp (Option.map_eq_none_iff.mp e)
  · have e := Option.some.inj e
    rw [enumL_get] at e
    obtain ⟨d1, q1, rfl⟩ := Option.map_eq_some_iff.mp e
    obtain ⟨v1, e1, r1⟩ := h2'.get q1
    refine ⟨⟨xs, v1, h1', e1⟩, ?_⟩
    rintro x H' ⟨T, x1, rfl, hT, rfl, hx⟩
    have w1 := hx xs h1'
    rw [e1] at w1; cases w1
    rw [Nat.zero_add]
    exact tup2_new hm rfl r1 hT
theorem link_enumL {n : Nat} {aa : Addr} (h1 : φ0[n]? = some aa) : Link g φ0 H0 (Ite g.K aa) (enumAt n) := by
  intro i φ m' H ex hm
  have h1' := ex.at h1
  refine ⟨fun e => ?_, fun d e => ?_⟩
  · unfold enumAt at e
    split at e
    · rename_i ds e0
      obtain ⟨xs, q1, q2⟩ := hm.at_ n _ aa e0 h1'
      exact ⟨xs, SqL.of q1, by rw [← q2.length]; exact List.getElem?_eq_none_iff.mp (Option.map_eq_none_iff.mp (Option.some.inj e))⟩
    · cases e
  · unfold enumAt at e
    split at e
    · rename_i ds e0
      obtain ⟨xs, q1, q2⟩ := hm.at_ n _ aa e0 h1'
      obtain ⟨d1, q3, rfl⟩ := Option.map_eq_some_iff.mp (Option.some.inj e)
      obtain ⟨v1, e1, r1⟩ := q2.get q3
      refine ⟨⟨xs, v1, SqL.of q1, e1⟩, ?_⟩
      rintro x H' ⟨T, x1, rfl, hT, rfl, hx⟩
      have w1 := hx xs (SqL.of q1)
      rw [e1] at w1; cases w1
      exact tup2_new hm rfl r1 hT
    · cases e
theorem i_enum (cc : Cok X g k) {fs : Evs} {elts : List Expr} {kk : Nat} {tpos : Pos} (hg : Gl X "enumerate") (hm : X.mg "enumerate" = none) (ha : XPs X g E [a] fs) (hs : starEach [a] X.env = [(false, eval a X.env)] := by rfl) :
    XI X g E (.Tuple elts kk tpos) (.Call (.Name "enumerate" p) [a] [] pos) (srcI enumO fs) := by
  have base := pi_enumA (elts := elts) (kk := kk) (tpos := tpos) (p := p) (pos := pos) hg hm ha hs
  rw [cc.K] at base
  refine PI.weaken base fun σ H R ⟨φ, L, m, hl, hm, hk⟩ => src_go hl hm hk fun ds φ1 m1 H1 vs ex hm1 hd hk1 => ?_
  unfold enumO at hk1
  split at hk1
  · obtain ⟨v, rfl, hv⟩ := hd.one
    obtain ⟨a1, xs, rfl, h1, h2⟩ := hv
    exact ⟨a1, xs, rfl, .inr ⟨h1, hk1 φ1 H1 _ Ext.refl hm1 (link_enumT hm1 h1 h2)⟩⟩
  · obtain ⟨v, rfl, hv⟩ := hd.one
    obtain ⟨a1, xs, rfl, h1, h2⟩ := hv
    exact ⟨a1, xs, rfl, .inl ⟨h1.sq, hk1 φ1 H1 _ Ext.refl hm1 (link_enumF hm1 h1 h2)⟩⟩
  · obtain ⟨v, rfl, hv⟩ := hd.one
    split at hk1
    · rename_i e1
      obtain ⟨a1, xs, rfl, n1, h1, h2⟩ := hm1.lst_at e1 hv
      exact ⟨a1, xs, rfl, .inl ⟨SqL.of h1, hk1 φ1 H1 _ Ext.refl hm1 (link_enumL n1)⟩⟩
    · exact hk1.elim
  · exact hk1.elim
/-! reversed -/
def revAt (n len : Nat) : Nat → Mem → Option (Option D) := fun i m => if i < len then match m[n]? with
    | some (.lst ds) => match ds[len - 1 - i]? with
      | some d => some (some d)
      | none => none
    | _ => none
  else some none
def revO (d : D) (m : Mem) : Out Src := match d with
  | .tup x => .ok (.st x.reverse) m
  | .fl x => .ok (.st x.reverse) m
  | .ref n => match m[n]? with
    | some (.lst ds) => .ok (.dy (revAt n ds.length) (ds.length + 1)) m
    | _ => .bad
  | _ => .bad
def revI (f : Ev) : Evi := fun L m => bindO (f L m) revO
theorem rev_get {ds : List D} {i : Nat} (h : i < ds.length) : ds.reverse[i]? = ds[ds.length - 1 - i]? := by
  rw [List.getElem?_reverse h]
theorem link_revT {aa : Addr} {xs : List V} {ds : List D} (r0 : RM g φ0 m H0) (h1 : SqT g.K H0 aa xs) (h2 : RpA g.K φ0 H0 ds xs) : Link g φ0 H0 (RT.ItvT g.K aa xs.length) (fun i _ => some ds.reverse[i]?) := by
  intro i φ m' H ex hm
  have h1' := (ex.stays r0).2.1 aa xs h1
  have h2' := RpA.ext r0 ex h2
  have hl := h2'.length
  refine ⟨fun e => ?_, fun d e => ?_⟩
  · have e := List.getElem?_eq_none_iff.mp (Option.some.inj e)
    rw [List.length_reverse, hl] at e
    exact e
  · have e := Option.some.inj e
    have hi : i < ds.length := by
      have := (List.getElem?_eq_some_iff.mp e).1
      simpa using this
    rw [rev_get hi] at e
    obtain ⟨v1, e1, r1⟩ := h2'.get e
    rw [hl] at e1
    refine ⟨⟨by omega, xs, v1, h1', e1⟩, ?_⟩
    rintro x H' ⟨rfl, hx⟩
    have w1 := hx xs h1'
    rw [e1] at w1; cases w1
    exact ⟨Ext.refl, hm, r1⟩
theorem link_revF {aa : Addr} {xs : List V} {ds : List D} (r0 : RM g φ0 m H0) (h1 : SqF g.K H0 aa xs) (h2 : RpA g.K φ0 H0 ds xs) : Link g φ0 H0 (Itv g.K aa xs.length) (fun i _ => some ds.reverse[i]?) := by
  intro i φ m' H ex hm
  have h1' := ((ex.stays r0).2.2 aa xs h1).sq
  have h2' := RpA.ext r0 ex h2
  have hl := h2'.length
  refine ⟨fun e => ?_, fun d e => ?_⟩
  · have e := List.getElem?_eq_none_iff.mp (Option.some.inj e)
    rw [List.length_reverse, hl] at e
    exact e
  · have e := Option.some.inj e
    have hi : i < ds.length := by
      have := (List.getElem?_eq_some_iff.mp e).1
      simpa using this
    rw [rev_get hi] at e
    obtain ⟨v1, e1, r1⟩ := h2'.get e
    rw [hl] at e1
    refine ⟨⟨by omega, xs, v1, h1', e1⟩, ?_⟩
    rintro x H' ⟨rfl, hx⟩
    have w1 := hx xs h1'
    rw [e1] at w1; cases w1
    exact ⟨Ext.refl, hm, r1⟩
theorem link_revL {n len : Nat} {aa : Addr} (h1 : φ0[n]? = some aa) : Link g φ0 H0 (Itv g.K aa len) (revAt n len) := by
  intro i φ m' H ex hm
  have h1' := ex.at h1
  unfold revAt
  by_cases hi : i < len
  · rw [if_pos hi]
    refine ⟨fun e => ?_, fun d e => ?_⟩
    · split at e
      · split at e <;> cases e
      · cases e
    · split at e
      · rename_i ds e0
        split at e
        · rename_i d1 e1
          cases e
          obtain ⟨xs, q1, q2⟩ := hm.at_ n _ aa e0 h1'
          obtain ⟨v1, e2, r1⟩ := q2.get e1
          refine ⟨⟨hi, xs, v1, SqL.of q1, e2⟩, ?_⟩
          rintro x H' ⟨rfl, hx⟩
          have w1 := hx xs (SqL.of q1)
          rw [e2] at w1; cases w1
          exact ⟨Ext.refl, hm, r1⟩
        · cases e
      · cases e
  · rw [if_neg hi]
    refine ⟨fun _ => Nat.le_of_not_lt hi, fun d e => ?_⟩
    cases e
theorem i_rev (cc : Cok X g k) {f : Ev} (hg : Gl X "reversed") (hm : X.mg "reversed" = none) (ha : XP X g E a f) (hs : starEach [a] X.env = (false, eval a X.env) :: starEach [] X.env := by rfl) :
    XI X g E tg (.Call (.Name "reversed" p) [a] [] pos) (revI f) := by
  have base := RT.pi_revA (tg := tg) (p := p) (pos := pos) hg hm ha hs
  rw [cc.K] at base
  refine PI.weaken base fun σ H R ⟨φ, L, m, hl, hm, hk⟩ => ⟨φ, L, m, hl, hm, ?_⟩
  unfold revI at hk
  cases e : f L m with
  | exc c fs m1 => rw [e] at hk; exact hk
  | bad => rw [e] at hk; exact hk
  | ok d m1 =>
    rw [e] at hk
    intro φ1 H1 v ex hm1 hd
    have hk1 := KI.ext hm1 ex hk
    simp only [bindO] at hk1
    cases d <;> try exact hk1.elim
    · obtain ⟨aa, xs, rfl, h1, h2⟩ := hd
      exact ⟨aa, xs, rfl, .inr ⟨h1, hk1 φ1 H1 _ Ext.refl hm1 (link_revT hm1 h1 h2)⟩⟩
    · obtain ⟨aa, xs, rfl, h1, h2⟩ := hd
      exact ⟨aa, xs, rfl, .inl ⟨h1.sq, hk1 φ1 H1 _ Ext.refl hm1 (link_revF hm1 h1 h2)⟩⟩
    · rename_i n
      simp only [revO] at hk1
      split at hk1
      · rename_i ds e0
        obtain ⟨aa, xs, rfl, n1, h1, h2⟩ := hm1.lst_at e0 hd
        rw [h2.length] at hk1
        exact ⟨aa, xs, rfl, .inl ⟨SqL.of h1, hk1 φ1 H1 _ Ext.refl hm1 (link_revL n1)⟩⟩
      · exact hk1.elim
end
end
end Core

set_option Elab.async false
set_option linter.all false
set_option maxRecDepth 100000
set_option maxHeartbeats 4000000
/-! List comprehensions. -/
namespace Core
noncomputable section
open PySem PySem.Spec PyProof.Rows L2

/-- the block's own slots forgotten -/
def wipeL (L : Sl) : List Nat → Sl
  | [] => L
  | v :: vs => (wipeL L vs).set v none
def lcGo (t : Tg) (c : Evb) (f : Ev) (it : Nat → Mem → Option (Option D)) (L : Sl) : Nat → Nat → List D → Mem → Out (List D)
  | 0, _, _, _ => .bad
  | n + 1, i, acc, m => match it i m with
    | none => .bad
    | some none => .ok acc m
    | some (some d) => bindO (t d L m) fun L' m => bindO (c L' m) fun b m => if b then bindO (f L' m) fun y m => if acc.length < 16777216 then frcL (acc ++ [y]) fun acc => lcGo t c f it L n (i + 1) acc m else .bad
      else lcGo t c f it L n (i + 1) acc m
def noX {α : Type} (o : Out α) : Out α := match o with
  | .ok a m => .ok a m
  | _ => .bad
def yesB : Evb := fun _ m => .ok true m
/-- [f for t in s if c], vs the block's own slots -/
def lcF (s : Evi) (t : Tg) (c : Evb) (f : Ev) (vs : List Nat) : Ev := fun L m => bindO (s L m) fun s m =>
  bindO (noX (frcL (wipeL L vs) fun L => lcGo t c f s.at L (match s with | .st ds => ds.length + 1 | .dy _ n => n) 0 [] m)) fun ds m => frcL (m ++ [.lst ds]) fun m' => .ok (.ref m.length) m'
/-- no exception -/
abbrev E0x : EX := fun _ _ _ _ => False

section
variable {X : Cx} {g : Gc} {E : EX} {k : Nat} {a b : Expr} {f h q : Ev} {tc : Evb} {pos p : Pos} {φ φ0 φ1 : List Addr} {m m1 : Mem} {H H0 H1 : Hp} {tg : Expr}
theorem wipeL_len (L : Sl) : ∀ vs, (wipeL L vs).length = L.length
  | [] => rfl
  | v :: vs => by unfold wipeL; rw [List.length_set, wipeL_len L vs]
theorem wipe_at {σ : L2.St} {j : Nat} : ∀ (vs : List Nat), j ∉ vs → (wipe σ vs)[j]? = σ[j]?
  | [], _ => rfl
  | v :: vs, h => by
    unfold wipe
    simp only [List.mem_cons, not_or] at h
    rw [List.getElem?_set_ne (fun e => h.1 e.symm), wipe_at vs h.2]
theorem wipeL_at {L : Sl} {j : Nat} {d : D} : ∀ (vs : List Nat), (wipeL L vs)[j]? = some (some d) → L[j]? = some (some d) ∧ j ∉ vs
  | [], h => ⟨h, by simp⟩
  | v :: vs, h => by
    unfold wipeL at h
    by_cases hj : v = j
    · subst hj
      by_cases hv : v < (wipeL L vs).length
      · rw [List.getElem?_set_self hv] at h; cases h
      · rw [List.getElem?_eq_none (by simpa using hv)] at h; cases h
    · rw [List.getElem?_set_ne hj] at h
      obtain ⟨h1, h2⟩ := wipeL_at vs h
      exact ⟨h1, by simp only [List.mem_cons, not_or]; exact ⟨fun e => hj e.symm, h2⟩⟩
theorem RL.wipe {K : PySem.W.Frag} {L : Sl} {σ : L2.St} (r : RL K φ H L σ) (vs : List Nat) : RL K φ H (wipeL L vs) (wipe σ vs) :=
  ⟨by rw [wipeL_len, wipe_length, r.len], fun i d e => by
    obtain ⟨e1, e2⟩ := wipeL_at vs e
    obtain ⟨v, q1, q2⟩ := r.at_ i d e1
    exact ⟨v, by rw [wipe_at vs e2]; exact q1, q2⟩⟩
/-- a target by HandS's reading, with what it does to own slots -/
structure OwnG (X : Cx) (g : Gc) (vs : List Nat) (tgh : TG) (t : Tg) : Prop where
  run : ∀ {φ : List Addr} {m : Mem} {H : Hp} {L : Sl} {σ : L2.St} {d : D} {v : V} {E : EX} {Q : L2.St → Hp → Prop}, RL g.K φ H L σ → RM g φ m H → Rp g.K φ H d v →
    (match t d L m with
      | .ok L' m' => m' = m ∧ ∀ σ', RL g.K φ H L' σ' → wipe σ' vs = wipe σ vs → Q σ' H
      | _ => False) → tgh v σ H Q
  mem : ∀ (d : D) (L : Sl) (m : Mem) (L' : Sl) (m' : Mem), t d L m = .ok L' m' → m' = m
theorem wipe_in {σ : L2.St} {j : Nat} : ∀ (vs : List Nat), j ∈ vs → (wipe σ vs)[j]? = if j < σ.length then some none else none
  | [], h => absurd h (by simp)
  | v :: vs, h => by
    unfold wipe
    by_cases hv : v = j
    · subst hv
      rw [List.getElem?_set]
      simp [wipe_length]
    · rw [List.getElem?_set_ne hv]
      rcases List.mem_cons.mp h with h | h
      · exact absurd h.symm hv
      · exact wipe_in vs h
theorem L2W (σ : L2.St) (vs : List Nat) : wipe (wipe σ vs) vs = wipe σ vs := by
  apply List.ext_getElem?
  intro j
  by_cases hj : j ∈ vs
  · rw [wipe_in vs hj, wipe_in vs hj, wipe_length]
  · rw [wipe_at vs hj]
theorem not_in_ext {a : Addr} {o : HO} (nD : a ∉ φ0) (ex : Ext φ0 H0 φ1 H1) (hD : H0 a = some o) : a ∉ φ1 := by
  obtain ⟨e, rfl, hn⟩ := ex.pre
  intro z
  rcases List.mem_append.mp z with z | z
  · exact nD z
  · rw [hn a z] at hD; cases hD
theorem stays_other {K : PySem.W.Frag} {a : Addr} {xs ys : List V} (hD : H a = some (.lst xs)) : Stays K φ H φ (upd H a (.lst ys)) := by
  refine ⟨⟨[], by simp⟩, fun b zs h => keep_sqT (fun h q e2 => ?_) h, fun b zs h => keep_sqF (fun h q e2 => ?_) h⟩
  · rw [upd_ne]
    · exact e2
    · rintro rfl
      rw [hD] at e2; cases e2
      rcases q with q | ⟨_, q⟩ <;> cases q
  · rw [upd_ne]
    · exact e2
    · rintro rfl
      rw [hD] at e2; cases e2
      obtain ⟨_, q⟩ := q; cases q
theorem RM.other {a : Addr} {xs ys : List V} (r : RM g φ m H) (nD : a ∉ φ) (hD : H a = some (.lst xs)) : RM g φ m (upd H a (.lst ys)) :=
  ⟨r.len, r.nd, fun n ob b e1 e2 => (r.at_ n ob b e1 e2).stays (stays_other hD) (upd_ne fun e => nD (by rw [← e]; exact List.mem_of_getElem? e2))⟩
theorem wipe_set {σ : L2.St} {i : Nat} {v : Option V} : ∀ (vs : List Nat), i ∈ vs → wipe (σ.set i v) vs = wipe σ vs
  | [], h => absurd h (by simp)
  | w :: vs, h => by
    unfold wipe
    by_cases hw : w = i
    · subst hw
      by_cases hm : w ∈ vs
      · rw [wipe_set vs hm]
      · have : ∀ vs : List Nat, w ∉ vs → wipe (σ.set w v) vs = (wipe σ vs).set w v := by
          intro vs
          induction vs with
          | nil => intro _; rfl
          | cons u us ih =>
            intro hn
            simp only [List.mem_cons, not_or] at hn
            show (wipe (σ.set w v) us).set u none = ((wipe σ us).set u none).set w v
            rw [ih hn.2, List.set_comm _ _ hn.1]
        rw [this vs hm, List.set_set]
    · have hm : i ∈ vs := by
        rcases List.mem_cons.mp h with h | h
        · exact absurd h.symm hw
        · exact h
      rw [wipe_set vs hm]
theorem own_name {vs : List Nat} (i : Nat) (hi : i ∈ vs) : OwnG X g vs (gName i) (gN i) where
  run := fun hl hm hd hk => by
    rw [gN_eq] at hk
    exact hk.2 _ (hl.set hd) (wipe_set vs hi)
  mem := fun d L m L' m' e => by
    rw [gN_eq] at e
    cases e; rfl
theorem own_two (hK : X.K = g.K) {vs : List Nat} (i j : Nat) (hi : i ∈ vs) (hj : j ∈ vs) : OwnG X g vs (gTup X.K 2 (gCons (gName i) (gCons (gName j) gNil))) (gT 2 (gcons (gN i) (gcons (gN j) gnil))) where
  run := by
    intro φ m H L σ d v E Q hl hm hd hk
    cases d <;> try exact hk.elim
    rename_i ds
    obtain ⟨a, xs, rfl, h1, h2⟩ := hd
    match ds, h2, hk with
    | [d1, d2], h2, hk =>
      obtain ⟨v1, v2, rfl, r1, r2⟩ := h2.two
      rw [← hK] at h1
      have e2 : gT 2 (gcons (gN i) (gcons (gN j) gnil)) (.tup [d1, d2]) L m = .ok ((L.set i (some d1)).set j (some d2)) m := by simp [gT, gcons, gnil, gN_eq, bindO]
      rw [e2] at hk
      have hk : m = m ∧ ∀ σ', RL g.K φ H ((L.set i (some d1)).set j (some d2)) σ' → wipe σ' vs = wipe σ vs → Q σ' H := hk
      exact ⟨a, [v1, v2], rfl, h1, rfl, v1, [v2], rfl, v2, [], rfl, rfl, hk.2 _ ((hl.set r1).set r2) (by rw [wipe_set vs hj, wipe_set vs hi])⟩
    | [], _, hk => exact hk.elim
    | [d1], _, hk =>
      rw [show gT 2 (gcons (gN i) (gcons (gN j) gnil)) (.tup [d1]) L m = .bad from by simp [gT]] at hk
      exact hk.elim
    | d1 :: d2 :: d3 :: r, _, hk =>
      have e : gT 2 (gcons (gN i) (gcons (gN j) gnil)) (.tup (d1 :: d2 :: d3 :: r)) L m = .bad := by simp [gT]
      rw [e] at hk
      exact hk.elim
  mem := by
    intro d L m L' m' e
    cases d <;> try cases e
    rename_i ds
    match ds, e with
    | [d1, d2], e =>
      rw [show gT 2 (gcons (gN i) (gcons (gN j) gnil)) (.tup [d1, d2]) L m = .ok ((L.set i (some d1)).set j (some d2)) m from by simp [gT, gcons, gnil, gN_eq, bindO]] at e
      cases e; rfl
    | [], e => cases e
    | [d1], e =>
      rw [show gT 2 (gcons (gN i) (gcons (gN j) gnil)) (.tup [d1]) L m = .bad from by simp [gT]] at e
      cases e
    | d1 :: d2 :: d3 :: r, e =>
      rw [show gT 2 (gcons (gN i) (gcons (gN j) gnil)) (.tup (d1 :: d2 :: d3 :: r)) L m = .bad from by simp [gT]] at e
      cases e
theorem tYes_go : ∀ {σ : L2.St} {Q : Bool → Hp → Prop} {L : Sl} , RL g.K φ H L σ → RM g φ m H → KXb g E0x (yesB L m) φ H Q → tYes σ H Q := fun hl hm hk => hk φ H Ext.refl hm
theorem noX_bind {o : Out (List D)} {kk : List D → Mem → Out D} {Q : VK} (hk : KX g E (bindO (noX o) kk) φ H Q) : ∃ ds m', o = .ok ds m' ∧ KX g E (kk ds m') φ H Q := by
  cases o with
  | ok ds m' => exact ⟨ds, m', rfl, hk⟩
  | exc c fs m' => exact hk.elim
  | bad => exact hk.elim
/-- tests of a clause -/
def CondOk (X : Cx) (g : Gc) (ifs : List Expr) (c : Evb) : Prop := PTs X ifs (tXb g E0x c)
theorem PTs.weaken {X : Cx} {e : List Expr} {t t' : TT} (h : PTs X e t) (w : ∀ σ H Q, t' σ H Q → t σ H Q) : PTs X e t' := ⟨fun pins s σ H Q I q => h.run pins s σ H Q I (w σ H Q q)⟩
theorem if_none : CondOk X g [] yesB := PTs.weaken pts_nil fun σ H Q ⟨φ, L, m, hl, hm, hk⟩ => hk φ H Ext.refl hm
theorem if_one (hc : XPb X g E0x a tc) : CondOk X g [a] tc := pts_one hc
theorem lc_go {src : Src} {t : Tg} {tgh : TG} {J : It} {vs : List Nat} {σ : L2.St} {L : Sl} {Q : VK} {ds : List D} {m' : Mem} {n : Nat} {D0 : Addr} (ow : OwnG X g vs tgh t) (lk : Link g φ H J src.at) (hl : RL g.K φ H L σ) (hm : RM g φ m H) (hD : H D0 = none)
    (e : lcGo t tc f src.at (wipeL L vs) n 0 [] m = .ok ds m') (hk : KX g E (.ok (.ref m'.length) (m' ++ [.lst ds])) φ H Q) :
    ∃ W : Nat → Nat → Hp → Prop, (∃ m, W 0 m (upd H D0 (.lst []))) ∧ ∀ i m H, W i m H →
      (J.stop i H ∧ Q (.ref D0) H) ∨ (J.go i H ∧ ∃ Nx : Hp → Prop, (∀ H', Nx H' → ∃ m', m' < m ∧ W (i + 1) m' H') ∧ ∀ x H', J.yld i H x H' → tgh x (wipe σ vs) H' fun σ2 H2 => wipe σ2 vs = wipe σ vs ∧ tXb g E0x tc σ2 H2 fun b H3 =>
        if b = true then tX g E0x f σ2 H3 fun y H4 => ∃ acc, H4 D0 = some (.lst acc) ∧ acc.length < sizeLine ∧ Nx (upd H4 D0 (.lst (acc ++ [y]))) else Nx H3) := by
  -- between two turns: the list at D0 stands outside of the memory
  refine ⟨fun i nn H' => ∃ φ' mm acc xs, Ext φ H φ' H' ∧ RM g φ' mm H' ∧ H' D0 = some (.lst xs) ∧ D0 ∉ φ' ∧ RpA g.K φ' H' acc xs ∧ lcGo t tc f src.at (wipeL L vs) nn i acc mm = .ok ds m', ⟨n, φ, m, [], [], Ext.laid hD, hm.laid hD, upd_same, hm.fresh hD, rfl, e⟩, ?_⟩
  rintro i nn H' ⟨φ', mm, acc, xs, ex, hm', hD', nD, hacc, eg⟩
  cases nn with
  | zero => cases eg
  | succ nn =>
    simp only [lcGo] at eg
    obtain ⟨l1, l2⟩ := lk i φ' mm H' ex hm'
    cases ei : src.at i mm with
    | none => rw [ei] at eg; cases eg
    | some o =>
      cases o with
      | none =>
        rw [ei] at eg
        cases eg
        refine .inl ⟨l1 ei, ?_⟩
        -- the list joins the memory
        refine hk (φ' ++ [D0]) H' _ ?_ ⟨?_, ?_, ?_⟩ ⟨D0, by rw [← hm'.len]; simp, rfl⟩
        · obtain ⟨ee, rfl, hn⟩ := ex.pre
          refine ⟨⟨ee ++ [D0], by rw [List.append_assoc], fun b hb => ?_⟩, ex.keep⟩
          rcases List.mem_append.mp hb with hb | hb
          · exact hn b hb
          · rw [List.mem_singleton.mp hb]; exact hD
        · simp [hm'.len]
        · rw [List.nodup_append]
          refine ⟨hm'.nd, by simp, fun a ha b hb => ?_⟩
          rw [List.mem_singleton.mp hb]
          rintro rfl
          exact nD ha
        · have stt : Stays g.K φ' H' (φ' ++ [D0]) H' := ⟨⟨[D0], rfl⟩, fun _ _ z => z, fun _ _ z => z⟩
          intro n' ob a' e1 e2
          by_cases hn : n' < m'.length
          · rw [List.getElem?_append_left hn] at e1
            rw [List.getElem?_append_left (by rw [hm'.len]; exact hn)] at e2
            exact (hm'.at_ n' ob a' e1 e2).stays stt rfl
          · have hn' : n' = m'.length := by
              have := (List.getElem?_eq_some_iff.mp e1).1
              simp only [List.length_append, List.length_singleton] at this
              omega
            subst hn'
            rw [List.getElem?_append_right (Nat.le_refl _)] at e1
            rw [List.getElem?_append_right (Nat.le_of_eq hm'.len)] at e2
            simp [hm'.len] at e1 e2
            subst e1 e2
            exact ⟨xs, hD', RpA.stays stt _ _ hacc⟩
      | some d =>
        rw [ei] at eg
        simp only at eg
        obtain ⟨hgo, hy⟩ := l2 d ei
        refine .inr ⟨hgo, fun H2 => ∃ φ2 mm2 acc2 xs2, Ext φ H φ2 H2 ∧ RM g φ2 mm2 H2 ∧ H2 D0 = some (.lst xs2) ∧ D0 ∉ φ2 ∧ RpA g.K φ2 H2 acc2 xs2 ∧ lcGo t tc f src.at (wipeL L vs) nn (i + 1) acc2 mm2 = .ok ds m', fun H2 z => ⟨nn, Nat.lt_succ_self _, z⟩, fun x H2 yy => ?_⟩
        obtain ⟨ex2, hm2, hd⟩ := hy x H2 yy
        have ex02 : Ext φ H φ' H2 := ex.trans hm' ex2
        have hD2 : H2 D0 = some (.lst xs) := ex2.keep _ _ hD' nD
        have hl2 : RL g.K φ' H2 (wipeL L vs) (wipe σ vs) := (hl.wipe vs).ext hm ex02
        refine ow.run (E := E) hl2 hm2 hd ?_
        cases et : t d (wipeL L vs) mm with
        | exc c fs m3 => rw [et] at eg; cases eg
        | bad => rw [et] at eg; cases eg
        | ok L3 m3 =>
          rw [et] at eg
          simp only [bindO] at eg
          obtain rfl := ow.mem _ _ _ _ _ et
          · refine ⟨rfl, fun σ3 hl3 hw3 => ⟨by rw [hw3]; exact L2W σ vs, φ', L3, m3, hl3, hm2, ?_⟩⟩
            cases ec : tc L3 m3 with
            | exc c fs m4 => rw [ec] at eg; cases eg
            | bad => rw [ec] at eg; cases eg
            | ok bb m4 =>
              rw [ec] at eg
              simp only at eg
              intro φ4 H4 ex4 hm4
              have ex04 := ex02.trans hm2 ex4
              have hD4 : H4 D0 = some (.lst xs) := ex4.keep _ _ hD2 nD
              have nD4 : D0 ∉ φ4 := not_in_ext nD ex4 hD2
              have hacc4 := (hacc.ext hm' ex2).ext hm2 ex4
              cases bb with
              | false =>
                rw [if_neg Bool.false_ne_true] at eg ⊢
                exact ⟨φ4, m4, acc, xs, ex04, hm4, hD4, nD4, hacc4, eg⟩
              | true =>
                rw [if_pos rfl] at eg ⊢
                refine ⟨φ4, L3, m4, hl3.ext hm2 ex4, hm4, ?_⟩
                cases ef : f L3 m4 with
                | exc c fs m5 => rw [ef] at eg; cases eg
                | bad => rw [ef] at eg; cases eg
                | ok y m5 =>
                  rw [ef] at eg
                  simp only at eg
                  intro φ5 H5 vy ex5 hm5 hy5
                  split at eg
                  · rename_i hz
                    rw [frcL_eq] at eg
                    have hD5 : H5 D0 = some (.lst xs) := ex5.keep _ _ hD4 nD4
                    have nD5 : D0 ∉ φ5 := not_in_ext nD4 ex5 hD4
                    have hacc5 := hacc4.ext hm4 ex5
                    refine ⟨xs, hD5, by rw [← lim_eq, ← hacc5.length]; exact hz, φ5, m5, acc ++ [y], xs ++ [vy], ?_, ?_, upd_same, nD5, ?_, eg⟩
                    · refine ⟨(ex04.trans hm4 ex5).pre, fun a hh ha hn => ?_⟩
                      rw [upd_ne (ne_of_none ha hD)]
                      exact (ex04.trans hm4 ex5).keep a hh ha hn
                    · exact hm5.other nD5 hD5
                    · exact RpA.stays (stays_other hD5) _ _ (hacc5.append ⟨vy, [], rfl, hy5, rfl⟩)
                  · cases eg
end
end
end Core

set_option Elab.async false
set_option linter.all false
set_option maxRecDepth 100000
set_option maxHeartbeats 4000000
/-! List comprehensions as expressions, as what is assigned, with two fors. -/
namespace Core
noncomputable section
open PySem PySem.Spec PyProof.Rows L2

/-- a loop of a comprehension: act at each turn -/
def cgGo (t : Tg) (c : Evb) (act : Sl → Mem → Out Unit) (it : Nat → Mem → Option (Option D)) (L : Sl) : Nat → Nat → Mem → Out Unit
  | 0, _, _ => .bad
  | n + 1, i, m => match it i m with
    | none => .bad
    | some none => .ok () m
    | some (some d) => bindO (t d L m) fun L' m => bindO (c L' m) fun b m => if b then bindO (act L' m) fun _ m => cgGo t c act it L n (i + 1) m
      else cgGo t c act it L n (i + 1) m
/-- y behind the n-th object, a list -/
def appD (n : Nat) (y : D) (m : Mem) : Out Unit := match m[n]? with
  | some (.lst ds) => if ds.length < 16777216 then frcL (ds ++ [y]) fun ds => setK m n (.lst ds) fun m => .ok () m else .bad
  | _ => .bad
def lenS (s : Src) : Nat := match s with
  | .st ds => ds.length + 1
  | .dy _ n => n
def noU (o : Out Unit) : Out Unit := match o with
  | .ok a m => .ok a m
  | _ => .bad
/-- [f for t in s if c for t1 in s1 if c1] -/
def lc2F (s : Evi) (t : Tg) (c : Evb) (s1 : Evi) (t1 : Tg) (c1 : Evb) (f : Ev) (vs vs1 : List Nat) : Ev := fun L m => bindO (s L m) fun s m =>
  bindO (noU (cgGo t c (fun L' mm => bindO (s1 L' mm) fun z mm => cgGo t1 c1 (fun L'' mm => bindO (f L'' mm) fun y mm => appD m.length y mm) z.at (wipeL L' vs1) (lenS z) 0 mm) s.at (wipeL L vs) (lenS s) 0 (m ++ [.lst []]))) fun _ m' => .ok (.ref m.length) m'

section
variable {X : Cx} {g : Gc} {E : EX} {k : Nat} {a b : Expr} {f h q : Ev} {tc tc1 : Evb} {pos p : Pos} {φ φ0 φ1 : List Addr} {m m1 : Mem} {H H0 H1 : Hp} {tg tg1 : Expr}
theorem x_lc {elt iter : Expr} {ifs : List Expr} {scope : Scope} {own : List (Str × Nat)} {s : Evi} {t : Tg} {tgh : TG} (cc : Cok X g k) (hN : X.N.Nodup) (hi : XI X g E tg iter s) (ok : BlkOk X.N X.env.scope scope own) (ow : OwnG X g (own.map (·.2)) tgh t)
    (hg : ∀ (s : Shared) (H : Hp) (C : Addr) (cl : List (Str × Addr)) (fp : List Addr), PG (X.blk s H scope (compEnvC scope cl C X.env) fp) tg tgh) (ht : ∀ (s : Shared) (H : Hp) (C : Addr) (cl : List (Str × Addr)) (fp : List Addr), CondOk (X.blk s H scope (compEnvC scope cl C X.env) fp) g ifs tc)
    (he : ∀ (s : Shared) (H : Hp) (C : Addr) (cl : List (Str × Addr)) (fp : List Addr), XP (X.blk s H scope (compEnvC scope cl C X.env) fp) g E0x elt f) (hs : ∀ x, foldedSetIterable iter X.env x = pure x := by intro _; rfl) :
    XP X g E (.ListComp elt [⟨tg, iter, ifs, 0⟩] scope pos) (lcF s t tc f (own.map (·.2))) :=
  PE.weaken (pe_lc cc.calm hN hi ok hg ht he hs) fun σ H Q ⟨φ, L, m, hl, hm, hk⟩ => ⟨φ, L, m, hl, hm, by
    unfold lcF at hk
    cases e : s L m with
    | exc c fs m1 => rw [e] at hk; exact hk
    | bad => rw [e] at hk; exact hk
    | ok sr m1 =>
      rw [e] at hk
      intro φ1 H1 J ex hm1 lk D0 hD
      have hk0 := KX.ext hm1 ex hk
      simp only [frcL_eq] at hk0
      obtain ⟨ds, m2, e2, hk2⟩ := noX_bind hk0
      exact lc_go ow lk (hl.ext hm ex) hm1 hD e2 hk2⟩
theorem s_setLc {i : Nat} {y : Str} {py spos : Pos} {elt iter : Expr} {ifs : List Expr} {scope : Scope} {own : List (Str × Nat)} {s : Evi} {t : Tg} {tgh : TG} (cc : Cok X g k) (hN : X.N.Nodup) (hy : X.N[i]? = some y) (hyl : X.env.scope.names.lookup y = some .local)
    (hsw : swapsWith (.ListComp elt [⟨tg, iter, ifs, 0⟩] scope pos) (some (.Name y py)) spos.line X.env = pure true) (hi : XI X g E tg iter s) (ok : BlkOk X.N X.env.scope scope own) (ow : OwnG X g (own.map (·.2)) tgh t)
    (hg : ∀ (s : Shared) (H : Hp) (C : Addr) (cl : List (Str × Addr)) (fp : List Addr), PG (X.blk s H scope (compEnvC scope cl C X.env) fp) tg tgh) (ht : ∀ (s : Shared) (H : Hp) (C : Addr) (cl : List (Str × Addr)) (fp : List Addr), CondOk (X.blk s H scope (compEnvC scope cl C X.env) fp) g ifs tc)
    (he : ∀ (s : Shared) (H : Hp) (C : Addr) (cl : List (Str × Addr)) (fp : List Addr), XP (X.blk s H scope (compEnvC scope cl C X.env) fp) g E0x elt f) (hs : ∀ x, foldedSetIterable iter X.env x = pure x := by intro _; rfl) :
    XS X g E (.Assign [.Name y py] (.ListComp elt [⟨tg, iter, ifs, 0⟩] scope pos) spos) (setT i (lcF s t tc f (own.map (·.2)))) :=
  PS.weaken (ps_setLc cc.calm hN hy hyl hsw hi ok hg ht he hs) fun D σ H ⟨φ, L, m, hl, hm, hk⟩ => by
    show tI g E s σ H _
    refine ⟨φ, L, m, hl, hm, ?_⟩
    unfold setT lcF at hk
    cases e : s L m with
    | exc c fs m1 => rw [e] at hk; exact hk
    | bad => rw [e] at hk; exact hk
    | ok sr m1 =>
      rw [e] at hk
      intro φ1 H1 J ex hm1 lk D0 hD
      have hk2 := KX.bindT (KS.ext hm1 ex hk)
      simp only [frcL_eq, setK_eq] at hk2
      obtain ⟨ds, m2, e2, hk3⟩ := noX_bind hk2
      refine lc_go (E := E) (Q := fun x H1 => gName i x σ H1 D.nx) ow lk (hl.ext hm ex) hm1 hD e2 (KX.mono hk3 fun v H2 ⟨d, φ2, m3, ex2, hm3, hd, hk4⟩ => ?_)
      exact hk4 φ2 H2 _ Ext.refl hm3 (((hl.ext hm ex).ext hm1 ex2).set hd)

/-- what an act of a comprehension may ask -/
def KU (g : Gc) (o : Out Unit) (φ : List Addr) (H : Hp) (N : Hp → Prop) : Prop := match o with
  | .ok _ m => ∀ φ' H', Ext φ H φ' H' → RM g φ' m H' → N H'
  | _ => False
theorem cg_go {t : Tg} {tgh : TG} {J : It} {it : Nat → Mem → Option (Option D)} {vs : List Nat} {σ : L2.St} {L : Sl} {m' : Mem} {n : Nat} {act : Sl → Mem → Out Unit} {TA : L2.St → Hp → (Hp → Prop) → Prop} {Fin : Hp → Prop} (ow : OwnG X g vs tgh t) (lk : Link g φ H J it) (hl : RL g.K φ H L σ) (hm : RM g φ m H)
    (hact : ∀ φ' H' L' mm σ' N, Ext φ H φ' H' → RL g.K φ' H' L' σ' → RM g φ' mm H' → KU g (act L' mm) φ' H' N → TA σ' H' N)
    (e : cgGo t tc act it (wipeL L vs) n 0 m = .ok () m') (hf : ∀ φ' H', Ext φ H φ' H' → RM g φ' m' H' → Fin H') :
    ∃ W : Nat → Nat → Hp → Prop, (∃ m, W 0 m H) ∧ ∀ i m H, W i m H →
      (J.stop i H ∧ Fin H) ∨ (J.go i H ∧ ∃ Nx : Hp → Prop, (∀ H', Nx H' → ∃ m', m' < m ∧ W (i + 1) m' H') ∧ ∀ x H', J.yld i H x H' → tgh x (wipe σ vs) H' fun σ2 H2 => wipe σ2 vs = wipe σ vs ∧ tXb g E0x tc σ2 H2 fun b H3 =>
        if b = true then TA σ2 H3 Nx else Nx H3) := by
  refine ⟨fun i nn H' => ∃ φ' mm, Ext φ H φ' H' ∧ RM g φ' mm H' ∧ cgGo t tc act it (wipeL L vs) nn i mm = .ok () m', ⟨n, φ, m, Ext.refl, hm, e⟩, ?_⟩
  rintro i nn H' ⟨φ', mm, ex, hm', eg⟩
  cases nn with
  | zero => cases eg
  | succ nn =>
    simp only [cgGo] at eg
    obtain ⟨l1, l2⟩ := lk i φ' mm H' ex hm'
    cases ei : it i mm with
    | none => rw [ei] at eg; cases eg
    | some o =>
      cases o with
      | none =>
        rw [ei] at eg
        cases eg
        exact .inl ⟨l1 ei, hf φ' H' ex hm'⟩
      | some d =>
        rw [ei] at eg
        simp only at eg
        obtain ⟨hgo, hy⟩ := l2 d ei
        refine .inr ⟨hgo, fun H2 => ∃ φ2 mm2, Ext φ H φ2 H2 ∧ RM g φ2 mm2 H2 ∧ cgGo t tc act it (wipeL L vs) nn (i + 1) mm2 = .ok () m', fun H2 z => ⟨nn, Nat.lt_succ_self _, z⟩, fun x H2 yy => ?_⟩
        obtain ⟨ex2, hm2, hd⟩ := hy x H2 yy
        have ex02 : Ext φ H φ' H2 := ex.trans hm' ex2
        have hl2 : RL g.K φ' H2 (wipeL L vs) (wipe σ vs) := (hl.wipe vs).ext hm ex02
        refine ow.run (E := E0x) hl2 hm2 hd ?_
        cases et : t d (wipeL L vs) mm with
        | exc c fs m3 => rw [et] at eg; cases eg
        | bad => rw [et] at eg; cases eg
        | ok L3 m3 =>
          rw [et] at eg
          simp only [bindO] at eg
          obtain rfl := ow.mem _ _ _ _ _ et
          refine ⟨rfl, fun σ3 hl3 hw3 => ⟨by rw [hw3]; exact L2W σ vs, φ', L3, m3, hl3, hm2, ?_⟩⟩
          cases ec : tc L3 m3 with
          | exc c fs m4 => rw [ec] at eg; cases eg
          | bad => rw [ec] at eg; cases eg
          | ok bb m4 =>
            rw [ec] at eg
            simp only at eg
            intro φ4 H4 ex4 hm4
            have ex04 := ex02.trans hm2 ex4
            cases bb with
            | false =>
              rw [if_neg Bool.false_ne_true] at eg ⊢
              exact ⟨φ4, m4, ex04, hm4, eg⟩
            | true =>
              rw [if_pos rfl] at eg ⊢
              refine hact φ4 H4 L3 m4 σ3 _ ex04 (hl3.ext hm2 ex4) hm4 ?_
              cases ea : act L3 m4 with
              | exc c fs m5 => rw [ea] at eg; cases eg
              | bad => rw [ea] at eg; cases eg
              | ok _ m5 =>
                rw [ea] at eg
                exact fun φ5 H5 ex5 hm5 => ⟨φ5, m5, ex04.trans hm4 ex5, hm5, eg⟩
theorem noU_bind {o : Out Unit} {kk : Unit → Mem → Out D} {Q : VK} (hk : KX g E (bindO (noU o) kk) φ H Q) : ∃ m', o = .ok () m' ∧ KX g E (kk () m') φ H Q := by
  cases o with
  | ok ds m' => exact ⟨m', rfl, hk⟩
  | exc c fs m' => exact hk.elim
  | bad => exact hk.elim
theorem app_act {n : Nat} {a : Addr} {y : D} {v : V} {N : Hp → Prop} (hm : RM g φ m H) (ha : φ[n]? = some a) (hv : Rp g.K φ H y v) (hk : KU g (appD n y m) φ H N) :
    ∃ acc, H a = some (.lst acc) ∧ acc.length < sizeLine ∧ N (upd H a (.lst (acc ++ [v]))) := by
  unfold appD at hk
  cases e : m[n]? with
  | none => rw [e] at hk; exact hk.elim
  | some o =>
    rw [e] at hk
    cases o with
    | dic _ => exact hk.elim
    | ins _ _ => exact hk.elim
    | lst ds =>
      simp only at hk
      split at hk
      · rename_i hz
        rw [frcL_eq, setK_eq] at hk
        obtain ⟨xs, q1, q2⟩ := hm.at_ n _ a e ha
        have x : Ext φ H φ (upd H a (.lst (xs ++ [v]))) := Ext.write (List.mem_of_getElem? ha)
        exact ⟨xs, q1, by rw [← lim_eq, ← q2.length]; exact hz, hk φ _ x (hm.write ha ⟨_, upd_same, RpA.ext hm x (q2.append ⟨v, [], rfl, hv, rfl⟩)⟩)⟩
      · exact hk.elim
theorem ext_at {n : Nat} {a : Addr} (ex : Ext φ H φ1 H1) (h : φ[n]? = some a) : φ1[n]? = some a := by
  obtain ⟨e, rfl, _⟩ := ex.pre
  rw [List.getElem?_append_left (List.getElem?_eq_some_iff.mp h).1]; exact h
theorem lc2_go {src : Src} {s1 : Evi} {t t1 : Tg} {tgh tgh1 : TG} {J : It} {vs vs1 : List Nat} {σ : L2.St} {L : Sl} {Q : VK} {m' : Mem} {D0 : Addr} {n : Nat} (ow : OwnG X g vs tgh t) (ow1 : OwnG X g vs1 tgh1 t1) (lk : Link g φ H J src.at) (hl : RL g.K φ H L σ) (hm : RM g φ m H) (hD : H D0 = none)
    (e : cgGo t tc (fun L' mm => bindO (s1 L' mm) fun z mm => cgGo t1 tc1 (fun L'' mm => bindO (f L'' mm) fun y mm => appD m.length y mm) z.at (wipeL L' vs1) (lenS z) 0 mm) src.at (wipeL L vs) n 0 (m ++ [.lst []]) = .ok () m')
    (hk : KX g E (.ok (.ref m.length) m') φ H Q) :
    ∃ W : Nat → Nat → Hp → Prop, (∃ m, W 0 m (upd H D0 (.lst []))) ∧ ∀ i m H, W i m H →
      (J.stop i H ∧ Q (.ref D0) H) ∨ (J.go i H ∧ ∃ Nx : Hp → Prop, (∀ H', Nx H' → ∃ m', m' < m ∧ W (i + 1) m' H') ∧ ∀ x H', J.yld i H x H' → tgh x (wipe σ vs) H' fun σ2 H2 => wipe σ2 vs = wipe σ vs ∧ tXb g E0x tc σ2 H2 fun b H3 =>
        if b = true then tI g E0x s1 σ2 H3 fun J1 H4 => ∃ W1 : Nat → Nat → Hp → Prop, (∃ m, W1 0 m H4) ∧ ∀ j k H, W1 j k H →
          (J1.stop j H ∧ Nx H) ∨ (J1.go j H ∧ ∃ Nx1 : Hp → Prop, (∀ H', Nx1 H' → ∃ k', k' < k ∧ W1 (j + 1) k' H') ∧ ∀ x H', J1.yld j H x H' → tgh1 x (wipe σ2 vs1) H' fun σ3 H5 => wipe σ3 vs1 = wipe σ2 vs1 ∧ tXb g E0x tc1 σ3 H5 fun b H6 =>
            if b = true then tX g E0x f σ3 H6 fun y H7 => ∃ acc, H7 D0 = some (.lst acc) ∧ acc.length < sizeLine ∧ Nx1 (upd H7 D0 (.lst (acc ++ [y]))) else Nx1 H6)
        else Nx H3) := by
  have hmD : RM g (φ ++ [D0]) (m ++ [.lst []]) (upd H D0 (.lst [])) := hm.push hD ⟨[], upd_same, rfl⟩
  have exD : Ext φ H (φ ++ [D0]) (upd H D0 (.lst [])) := Ext.laidM hD
  have hat : (φ ++ [D0])[m.length]? = some D0 := by rw [← hm.len]; simp
  have lkD : Link g (φ ++ [D0]) (upd H D0 (.lst [])) J src.at := fun i φ' mm H' ex hm' => lk i φ' mm H' (exD.trans hmD ex) hm'
  refine cg_go (TA := fun σ2 H3 Nx => tI g E0x s1 σ2 H3 fun J1 H4 => ∃ W1 : Nat → Nat → Hp → Prop, (∃ m, W1 0 m H4) ∧ ∀ j k H, W1 j k H →
          (J1.stop j H ∧ Nx H) ∨ (J1.go j H ∧ ∃ Nx1 : Hp → Prop, (∀ H', Nx1 H' → ∃ k', k' < k ∧ W1 (j + 1) k' H') ∧ ∀ x H', J1.yld j H x H' → tgh1 x (wipe σ2 vs1) H' fun σ3 H5 => wipe σ3 vs1 = wipe σ2 vs1 ∧ tXb g E0x tc1 σ3 H5 fun b H6 =>
            if b = true then tX g E0x f σ3 H6 fun y H7 => ∃ acc, H7 D0 = some (.lst acc) ∧ acc.length < sizeLine ∧ Nx1 (upd H7 D0 (.lst (acc ++ [y]))) else Nx1 H6))
    ow lkD (hl.ext hm exD) hmD ?_ e ?_
  · intro φ2 H2 L2' mm σ2 N ex2 hl2 hm2 hku
    refine ⟨φ2, L2', mm, hl2, hm2, ?_⟩
    cases es : s1 L2' mm with
    | exc c fs m5 => rw [es] at hku; exact hku.elim
    | bad => rw [es] at hku; exact hku.elim
    | ok sr mm3 =>
      rw [es] at hku
      intro φ3 H3 J1 ex3 hm3 lk1
      have hku : KU g (cgGo t1 tc1 (fun L'' mm => bindO (f L'' mm) fun y mm => appD m.length y mm) sr.at (wipeL L2' vs1) (lenS sr) 0 mm3) φ2 H2 N := hku
      cases ec : cgGo t1 tc1 (fun L'' mm => bindO (f L'' mm) fun y mm => appD m.length y mm) sr.at (wipeL L2' vs1) (lenS sr) 0 mm3 with
      | exc c fs m5 => rw [ec] at hku; exact hku.elim
      | bad => rw [ec] at hku; exact hku.elim
      | ok _ m5 =>
        rw [ec] at hku
        refine cg_go (TA := fun σ3 H6 Nx1 => tX g E0x f σ3 H6 fun y H7 => ∃ acc, H7 D0 = some (.lst acc) ∧ acc.length < sizeLine ∧ Nx1 (upd H7 D0 (.lst (acc ++ [y])))) ow1 lk1 (hl2.ext hm2 ex3) hm3 ?_ ec ?_
        · intro φ4 H4 L4 mm4 σ4 N4 ex4 hl4 hm4 hku4
          refine ⟨φ4, L4, mm4, hl4, hm4, ?_⟩
          cases ef : f L4 mm4 with
          | exc c fs m6 => simp only [bindO, ef] at hku4; exact hku4.elim
          | bad => simp only [bindO, ef] at hku4; exact hku4.elim
          | ok y m6 =>
            simp only [bindO, ef] at hku4
            intro φ5 H5 v ex5 hm5 hv
            have at5 : φ5[m.length]? = some D0 := ext_at ex5 (ext_at ex4 (ext_at ex3 (ext_at ex2 hat)))
            refine app_act hm5 at5 hv ?_
            have hku5 : KU g (appD m.length y m6) φ5 H5 N4 := by
              cases ea : appD m.length y m6 with
              | exc c fs m6 => rw [ea] at hku4; exact hku4.elim
              | bad => rw [ea] at hku4; exact hku4.elim
              | ok _ m7 =>
                rw [ea] at hku4
                exact fun φ' H' ex' hm' => hku4 φ' H' (ex5.trans hm5 ex') hm'
            exact hku5
        · exact fun φ' H' ex' hm' => hku φ' H' (ex3.trans hm3 ex') hm'
  · intro φ' H' ex' hm'
    exact hk φ' H' _ (exD.trans hmD ex') hm' ⟨D0, ext_at ex' hat, rfl⟩
theorem x_lc2 {elt iter iter1 : Expr} {ifs ifs1 : List Expr} {scope : Scope} {own : List (Str × Nat)} {vs1 : List Nat} {s s1 : Evi} {t t1 : Tg} {tgh tgh1 : TG} (cc : Cok X g k) (hN : X.N.Nodup) (hi : XI X g E tg iter s) (ok : BlkOk X.N X.env.scope scope own) (hv : ∀ i ∈ vs1, i ∈ own.map (·.2)) (ow : OwnG X g (own.map (·.2)) tgh t) (ow1 : OwnG X g vs1 tgh1 t1)
    (hg : ∀ (s : Shared) (H : Hp) (C : Addr) (cl : List (Str × Addr)) (fp : List Addr), PG (X.blk s H scope (compEnvC scope cl C X.env) fp) tg tgh) (ht : ∀ (s : Shared) (H : Hp) (C : Addr) (cl : List (Str × Addr)) (fp : List Addr), CondOk (X.blk s H scope (compEnvC scope cl C X.env) fp) g ifs tc)
    (hi1 : ∀ (s : Shared) (H : Hp) (C : Addr) (cl : List (Str × Addr)) (fp : List Addr), XI (X.blk s H scope (compEnvC scope cl C X.env) fp) g E0x tg1 iter1 s1)
    (hg1 : ∀ (s : Shared) (H : Hp) (C : Addr) (cl : List (Str × Addr)) (fp : List Addr), PG (X.blk s H scope (compEnvC scope cl C X.env) fp) tg1 tgh1) (ht1 : ∀ (s : Shared) (H : Hp) (C : Addr) (cl : List (Str × Addr)) (fp : List Addr), CondOk (X.blk s H scope (compEnvC scope cl C X.env) fp) g ifs1 tc1)
    (he : ∀ (s : Shared) (H : Hp) (C : Addr) (cl : List (Str × Addr)) (fp : List Addr), XP (X.blk s H scope (compEnvC scope cl C X.env) fp) g E0x elt f) (hs : ∀ x, foldedSetIterable iter X.env x = pure x := by intro _; rfl) (hs1 : ∀ env x, foldedSetIterable iter1 env x = pure x := by intro _ _; rfl) :
    XP X g E (.ListComp elt [⟨tg, iter, ifs, 0⟩, ⟨tg1, iter1, ifs1, 0⟩] scope pos) (lc2F s t tc s1 t1 tc1 f (own.map (·.2)) vs1) :=
  PE.weaken (pe_lc2 cc.calm hN hi ok hv hg ht hi1 hg1 ht1 he hs hs1) fun σ H Q ⟨φ, L, m, hl, hm, hk⟩ => ⟨φ, L, m, hl, hm, by
    unfold lc2F at hk
    cases e : s L m with
    | exc c fs m1 => rw [e] at hk; exact hk
    | bad => rw [e] at hk; exact hk
    | ok sr m1 =>
      rw [e] at hk
      intro φ1 H1 J ex hm1 lk D0 hD
      obtain ⟨m2, e2, hk2⟩ := noU_bind (KX.ext hm1 ex hk)
      exact lc2_go ow ow1 lk (hl.ext hm ex) hm1 hD e2 hk2⟩
theorem s_setLc2 {i : Nat} {y : Str} {py spos : Pos} {elt iter iter1 : Expr} {ifs ifs1 : List Expr} {scope : Scope} {own : List (Str × Nat)} {vs1 : List Nat} {s s1 : Evi} {t t1 : Tg} {tgh tgh1 : TG} (cc : Cok X g k) (hN : X.N.Nodup) (hy : X.N[i]? = some y) (hyl : X.env.scope.names.lookup y = some .local)
    (hsw : swapsWith (.ListComp elt [⟨tg, iter, ifs, 0⟩, ⟨tg1, iter1, ifs1, 0⟩] scope pos) (some (.Name y py)) spos.line X.env = pure true) (hi : XI X g E tg iter s) (ok : BlkOk X.N X.env.scope scope own) (hv : ∀ i ∈ vs1, i ∈ own.map (·.2)) (ow : OwnG X g (own.map (·.2)) tgh t) (ow1 : OwnG X g vs1 tgh1 t1)
    (hg : ∀ (s : Shared) (H : Hp) (C : Addr) (cl : List (Str × Addr)) (fp : List Addr), PG (X.blk s H scope (compEnvC scope cl C X.env) fp) tg tgh) (ht : ∀ (s : Shared) (H : Hp) (C : Addr) (cl : List (Str × Addr)) (fp : List Addr), CondOk (X.blk s H scope (compEnvC scope cl C X.env) fp) g ifs tc)
    (hi1 : ∀ (s : Shared) (H : Hp) (C : Addr) (cl : List (Str × Addr)) (fp : List Addr), XI (X.blk s H scope (compEnvC scope cl C X.env) fp) g E0x tg1 iter1 s1)
    (hg1 : ∀ (s : Shared) (H : Hp) (C : Addr) (cl : List (Str × Addr)) (fp : List Addr), PG (X.blk s H scope (compEnvC scope cl C X.env) fp) tg1 tgh1) (ht1 : ∀ (s : Shared) (H : Hp) (C : Addr) (cl : List (Str × Addr)) (fp : List Addr), CondOk (X.blk s H scope (compEnvC scope cl C X.env) fp) g ifs1 tc1)
    (he : ∀ (s : Shared) (H : Hp) (C : Addr) (cl : List (Str × Addr)) (fp : List Addr), XP (X.blk s H scope (compEnvC scope cl C X.env) fp) g E0x elt f) (hs : ∀ x, foldedSetIterable iter X.env x = pure x := by intro _; rfl) (hs1 : ∀ env x, foldedSetIterable iter1 env x = pure x := by intro _ _; rfl) :
    XS X g E (.Assign [.Name y py] (.ListComp elt [⟨tg, iter, ifs, 0⟩, ⟨tg1, iter1, ifs1, 0⟩] scope pos) spos) (setT i (lc2F s t tc s1 t1 tc1 f (own.map (·.2)) vs1)) :=
  PS.weaken (ps_setLc2 cc.calm hN hy hyl hsw hi ok hv hg ht hi1 hg1 ht1 he hs hs1) fun D σ H ⟨φ, L, m, hl, hm, hk⟩ => by
    show tI g E s σ H _
    refine ⟨φ, L, m, hl, hm, ?_⟩
    unfold setT lc2F at hk
    cases e : s L m with
    | exc c fs m1 => rw [e] at hk; exact hk
    | bad => rw [e] at hk; exact hk
    | ok sr m1 =>
      rw [e] at hk
      intro φ1 H1 J ex hm1 lk D0 hD
      have hk2 := KX.bindT (KS.ext hm1 ex hk)
      simp only [frcL_eq, setK_eq] at hk2
      obtain ⟨m2, e2, hk3⟩ := noU_bind hk2
      refine lc2_go (E := E) (Q := fun x H1 => gName i x σ H1 D.nx) ow ow1 lk (hl.ext hm ex) hm1 hD e2 (KX.mono hk3 fun v H2 ⟨d, φ2, m3, ex2, hm3, hd, hk4⟩ => ?_)
      exact hk4 φ2 H2 _ Ext.refl hm3 (((hl.ext hm ex).ext hm1 ex2).set hd)
/-- a block's context -/
theorem Cok.blk (cc : Cok X g k) {s : Shared} {scope : Scope} {ce : Env} {fp : List Addr} : Cok (X.blk s H scope ce fp) g k := ⟨cc.K, cc.calm, cc.room, cc.nd⟩
end
end
end Core

set_option Elab.async false
set_option linter.all false
set_option maxRecDepth 100000
set_option maxHeartbeats 4000000
/-! The program's own functions: what they promise, how they are called. -/
namespace Core
noncomputable section
open PySem PySem.Spec PyProof.Rows L2

mutual
/-- nothing of the memory in it -/
def noR : D → Bool
  | .tup ds => noRs ds
  | .fl ds => noRs ds
  | .ref _ => false
  | .non => true
  | .bl _ => true
  | .int _ => true
  | .str _ => true
  | .shw _ => true
def noRs : List D → Bool
  | [] => true
  | d :: ds => noR d && noRs ds
end
mutual
/-- seen from a memory with k objects ahead -/
def shD (k : Nat) : D → D
  | .tup ds => .tup (shDs k ds)
  | .fl ds => .fl (shDs k ds)
  | .ref n => .ref (k + n)
  | .non => .non
  | .bl b => .bl b
  | .int i => .int i
  | .str x => .str x
  | .shw p => .shw p
def shDs (k : Nat) : List D → List D
  | [] => []
  | d :: ds => shD k d :: shDs k ds
end
def shKV (k : Nat) : List (D × D) → List (D × D)
  | [] => []
  | p :: r => (p.1, shD k p.2) :: shKV k r
def shO (k : Nat) : MO → MO
  | .lst ds => .lst (shDs k ds)
  | .dic kvs => .dic (shKV k kvs)
  | .ins c ds => .ins c (shDs k ds)
/-- what comes back of a call that ran on a memory of its own -/
def backF (d : D) (m' m : Mem) : Out D := if noR d then .ok d m else match d with
  | .ref n => match m'[n]? with
    | some (.lst es) => if noRs es then .ok (.ref m.length) (m ++ [.lst es]) else .ok (shD m.length d) (m ++ m'.map (shO m.length))
    | _ => .ok (shD m.length d) (m ++ m'.map (shO m.length))
  | _ => .ok (shD m.length d) (m ++ m'.map (shO m.length))
def callF (F : List D → Mem → Out D) (ds : List D) (m : Mem) : Out D := if noRs ds then match F ds [] with
    | .ok d m' => backF d m' m
    | _ => .bad
  else match F ds m with
    | .ok d m => .ok d m
    | _ => .bad
/-- a def's body, n names -/
def bodyF (n : Nat) (t : Tr) (ds : List D) (m : Mem) : Out D := match t (ds.map some ++ List.replicate (n - ds.length) none) m with
  | .nx _ m => .ok .non m
  | .rt d m => .ok d m
  | .exc c fs m => .exc c fs m
  | _ => .bad

section
variable {g : Gc} {E : EX} {K : PySem.W.Frag} {φ φ' φ1 : List Addr} {H H' : Hp} {m m' : Mem}
mutual
theorem Rp.noR : ∀ (d : D) (v : V), noR d = true → Rp K φ H d v → Rp K φ' H d v
  | .non, _, _, h => h
  | .bl _, _, _, h => h
  | .int _, _, _, h => h
  | .str _, _, _, h => h
  | .shw _, _, _, h => h
  | .tup ds, _, e, ⟨a, xs, e1, q, r⟩ => ⟨a, xs, e1, q, RpA.noR ds xs e r⟩
  | .fl ds, _, e, ⟨a, xs, e1, q, r⟩ => ⟨a, xs, e1, q, RpA.noR ds xs e r⟩
  | .ref n, _, e, _ => by cases e
theorem RpA.noR : ∀ (ds : List D) (vs : List V), noRs ds = true → RpA K φ H ds vs → RpA K φ' H ds vs
  | [], _, _, h => h
  | d :: ds, _, e, ⟨v, r, e1, h1, h2⟩ => by
    have e2 : (Core.noR d && noRs ds) = true := e
    rw [Bool.and_eq_true] at e2
    exact ⟨v, r, e1, Rp.noR d v e2.1 h1, RpA.noR ds r e2.2 h2⟩
end
mutual
theorem Rp.sh : ∀ (d : D) (v : V), Rp K φ' H d v → Rp K (φ ++ φ') H (shD φ.length d) v
  | .non, _, h => h
  | .bl _, _, h => h
  | .int _, _, h => h
  | .str _, _, h => h
  | .shw _, _, h => h
  | .tup ds, _, ⟨a, xs, e1, q, r⟩ => ⟨a, xs, e1, q, RpA.sh ds xs r⟩
  | .fl ds, _, ⟨a, xs, e1, q, r⟩ => ⟨a, xs, e1, q, RpA.sh ds xs r⟩
  | .ref n, _, ⟨a, e1, e2⟩ => ⟨a, by rw [List.getElem?_append_right (Nat.le_add_right _ _), Nat.add_sub_cancel_left]; exact e1, e2⟩
theorem RpA.sh : ∀ (ds : List D) (vs : List V), RpA K φ' H ds vs → RpA K (φ ++ φ') H (shDs φ.length ds) vs
  | [], _, h => h
  | d :: ds, _, ⟨v, r, e1, h1, h2⟩ => ⟨v, r, e1, Rp.sh d v h1, RpA.sh ds r h2⟩
end
theorem RKV.sh : ∀ (ds : List (D × D)) (vs : List (Key × V)), RKV K φ' H ds vs → RKV K (φ ++ φ') H (shKV φ.length ds) vs
  | [], _, h => h
  | (k, d) :: ds, _, ⟨key, v, ks', e1, e2, h1, h2⟩ => ⟨key, v, ks', e1, e2, Rp.sh d v h1, RKV.sh ds ks' h2⟩
theorem RFl.sh : ∀ (ns : List Str) (ds : List D) (fs : List (Str × V)), RFl K φ' H ns ds fs → RFl K (φ ++ φ') H ns (shDs φ.length ds) fs
  | [], [], _, h => h
  | _ :: _, [], _, h => h
  | [], _ :: _, _, h => h.elim
  | n :: ns, d :: ds, _, ⟨v, r, e, h1, h2⟩ => ⟨v, r, e, Rp.sh d v h1, RFl.sh ns ds r h2⟩
theorem RO.sh {o : MO} {a : Addr} (h : RO g φ' H o a) : RO g (φ ++ φ') H (shO φ.length o) a := by
  cases o with
  | lst ds => obtain ⟨xs, h1, h2⟩ := h; exact ⟨xs, h1, RpA.sh ds xs h2⟩
  | dic ds => obtain ⟨xs, h1, h2⟩ := h; exact ⟨xs, h1, RKV.sh ds xs h2⟩
  | ins c ds => obtain ⟨dx, fs, h1, h2⟩ := h; exact ⟨dx, fs, h1, RFl.sh _ ds fs h2⟩
theorem RM.none : RM g [] [] H := ⟨rfl, List.nodup_nil, fun n o a e => by simp at e⟩
theorem Ext.of_none (x : Ext [] H φ' H') : Ext φ H φ H' := ⟨⟨[], by simp, by simp⟩, fun a h e _ => x.keep a h e (by simp)⟩
theorem Ext.of_noneA (x : Ext [] H φ' H') : Ext φ H (φ ++ φ') H' := by
  obtain ⟨e, he, hn⟩ := x.pre
  have he : φ' = e := he
  subst he
  exact ⟨⟨φ', rfl, hn⟩, fun a h q _ => x.keep a h q (by simp)⟩
theorem RM.of_none (r : RM g φ m H) (x : Ext [] H φ' H') : RM g φ m H' :=
  ⟨r.len, r.nd, fun n ob a e1 e2 => (r.at_ n ob a e1 e2).stays (Ext.stays r (Ext.of_none x)) (by
    obtain ⟨h, q, _⟩ := r.tracked (List.mem_of_getElem? e2)
    rw [q]
    exact x.keep a h q (by simp))⟩
theorem none_apart (r : RM g φ m H) (x : Ext [] H φ' H') : ∀ a ∈ φ, a ∉ φ' := by
  intro a ha hb
  obtain ⟨e, he, hn⟩ := x.pre
  have he : φ' = e := he
  subst he
  obtain ⟨h, q, _⟩ := r.tracked ha
  rw [hn a hb] at q; cases q
theorem RM.sh (r : RM g φ m H) (x : Ext [] H φ' H') (r' : RM g φ' m' H') : RM g (φ ++ φ') (m ++ m'.map (shO m.length)) H' := by
  have r0 := r.of_none x
  have ap := none_apart r x
  refine ⟨by simp [r.len, r'.len], ?_, fun n ob a e1 e2 => ?_⟩
  · rw [List.nodup_append]
    exact ⟨r.nd, r'.nd, fun a ha b hb e => ap a ha (e ▸ hb)⟩
  · by_cases hn : n < m.length
    · rw [List.getElem?_append_left hn] at e1
      rw [List.getElem?_append_left (by rw [r.len]; exact hn)] at e2
      exact (r0.at_ n ob a e1 e2).stays ⟨⟨φ', rfl⟩, fun _ _ z => z, fun _ _ z => z⟩ rfl
    · have hn : m.length ≤ n := Nat.le_of_not_lt hn
      rw [List.getElem?_append_right hn, List.getElem?_map] at e1
      rw [List.getElem?_append_right (by rw [r.len]; exact hn), r.len] at e2
      cases e3 : m'[n - m.length]? with
      | none => rw [e3] at e1; cases e1
      | some o =>
        rw [e3] at e1
        cases e1
        rw [← r.len]
        exact RO.sh (r'.at_ _ o a e3 e2)
theorem RM.keep1 (r : RM g φ m H) (x : Ext [] H φ' H') (r' : RM g φ' m' H') {n : Nat} {es : List D} {a : Addr} (e : m'[n]? = some (.lst es)) (ea : φ'[n]? = some a) (hn : noRs es = true) : RM g (φ ++ [a]) (m ++ [.lst es]) H' := by
  have r0 := r.of_none x
  have ap := none_apart r x
  refine ⟨by simp [r.len], ?_, fun k ob b e1 e2 => ?_⟩
  · rw [List.nodup_append]
    refine ⟨r.nd, by simp, fun b hb c hc q => ?_⟩
    rw [List.mem_singleton.mp hc] at q
    exact ap b hb (q ▸ List.mem_of_getElem? ea)
  · by_cases hk : k < m.length
    · rw [List.getElem?_append_left hk] at e1
      rw [List.getElem?_append_left (by rw [r.len]; exact hk)] at e2
      exact (r0.at_ k ob b e1 e2).stays ⟨⟨[a], rfl⟩, fun _ _ z => z, fun _ _ z => z⟩ rfl
    · have hk' : k = m.length := by
        have := (List.getElem?_eq_some_iff.mp e1).1
        simp only [List.length_append, List.length_singleton] at this
        omega
      subst hk'
      rw [List.getElem?_append_right (Nat.le_refl _)] at e1
      rw [List.getElem?_append_right (Nat.le_of_eq r.len)] at e2
      simp [r.len] at e1 e2
      subst e1 e2
      obtain ⟨xs, q1, q2⟩ := r'.at_ n _ a e ea
      exact ⟨xs, q1, RpA.noR es xs hn q2⟩
theorem Ext.keep1 (x : Ext [] H φ' H') {a : Addr} (ha : a ∈ φ') : Ext φ H (φ ++ [a]) H' := by
  obtain ⟨e, he, hn⟩ := x.pre
  have he : φ' = e := he
  subst he
  exact ⟨⟨[a], rfl, fun b hb => by rw [List.mem_singleton.mp hb]; exact hn a ha⟩, fun a h q _ => x.keep a h q (by simp)⟩
/-- what comes back -/
theorem back_ok {Q : VK} {d : D} {v : V} (r : RM g φ m H) (x : Ext [] H φ' H') (r' : RM g φ' m' H') (hd : Rp g.K φ' H' d v) (hk : KX g E (backF d m' m) φ H Q) : Q v H' := by
  have gen : KX g E (.ok (shD m.length d) (m ++ m'.map (shO m.length))) φ H Q → Q v H' := fun hk =>
    hk (φ ++ φ') H' v (Ext.of_noneA x) (r.sh x r') (by rw [← r.len]; exact Rp.sh d v hd)
  unfold backF at hk
  by_cases hn : Core.noR d = true
  · rw [if_pos hn] at hk
    exact hk φ H' v (Ext.of_none x) (r.of_none x) (Rp.noR d v hn hd)
  · rw [if_neg hn] at hk
    cases d with
    | ref n =>
      simp only at hk
      cases e : m'[n]? with
      | none => rw [e] at hk; exact gen hk
      | some o =>
        rw [e] at hk
        cases o with
        | lst es =>
          simp only at hk
          by_cases he : noRs es = true
          · rw [if_pos he] at hk
            obtain ⟨a, e1, rfl⟩ := hd
            exact hk (φ ++ [a]) H' _ (x.keep1 (List.mem_of_getElem? e1)) (r.keep1 x r' e e1 he) ⟨a, by rw [← r.len]; simp, rfl⟩
          · rw [if_neg he] at hk
            exact gen hk
        | dic _ => exact gen hk
        | ins _ _ => exact gen hk
    | _ => exact gen hk
/-- the promise of a def that reckons F: n arguments, no exception -/
def spF (g : Gc) (n : Nat) (F : List D → Mem → Out D) : Sp := fun vs H Q _ => vs.length = n ∧ ∃ φ m ds, RM g φ m H ∧ RpA g.K φ H ds vs ∧ KX g E0x (F ds m) φ H Q
theorem call_spF {F : List D → Mem → Out D} {ds : List D} {vs : List V} {Q : VK} {n : Nat} {Ek : XK} (r : RM g φ m H) (hd : RpA g.K φ H ds vs) (hl : ds.length = n) (hk : KX g E (callF F ds m) φ H Q) : spF g n F vs H Q Ek := by
  refine ⟨by rw [← hd.length]; exact hl, ?_⟩
  unfold callF at hk
  by_cases hn : noRs ds = true
  · rw [if_pos hn] at hk
    refine ⟨[], [], ds, RM.none, RpA.noR ds vs hn hd, ?_⟩
    cases e : F ds [] with
    | exc c fs m1 => rw [e] at hk; exact hk.elim
    | bad => rw [e] at hk; exact hk.elim
    | ok d m1 =>
      rw [e] at hk
      exact fun φ' H' v x r' h => back_ok r x r' h hk
  · rw [if_neg hn] at hk
    refine ⟨φ, m, ds, r, hd, ?_⟩
    cases e : F ds m with
    | exc c fs m1 => rw [e] at hk; exact hk.elim
    | bad => rw [e] at hk; exact hk.elim
    | ok d m1 =>
      rw [e] at hk
      exact hk
end

section
variable {X : Cx} {g : Gc} {E : EX} {k kf : Nat} {e : Expr} {es : List Expr} {hs hw : Evs} {F : List D → Mem → Out D} {CX : CXT} {Ek : XK} {f : Addr} {fd : FuncData} {ps ks : List Str} {x : Str} {p pos : Pos} {kws : List Keyword}
/-- by the number of the arguments -/
def argF (n : Nat) (F : List D → Mem → Out D) : Fn1 := fun ds m => if ds.length = n then callF F ds m else .bad
/-- f(e, ..) -/
theorem x_call {n : Nat} (Ff : FnG X.prog X.w X.K X.mg X.base CX kf f fd ps (spF g n F)) (gu : X.A.guards = some []) (hr : Room kf X.A) (hg : Gl X x) (hm : X.mg x = some (.ref f)) (hk : PySem.W.keepIn X.K (.ref f) = true) (hb : Bnd X.K fd ps [] n []) (hx : Passes CX X Ek)
    (ha : XPs X g E (e :: es) hs) (hdb : (x == ("__debug__" : Str)) = false := by decide) (he : starEach (e :: es) X.env = (false, eval e X.env) :: starEach es X.env := by rfl)
    (hpl : (backTo pos (starEach es X.env)).any (·.1) = false := by rfl) : XP X g E (.Call (.Name x p) (e :: es) [] pos) (fnF (argF n F) hs) :=
  PE.weaken (pg_call Ff gu hr hg hm hk hb hx ha hdb he hpl) fun σ H Q ⟨φ, L, m, hl, hm, hk⟩ => ⟨φ, L, m, hl, hm, KXs.mono (KXs.bind (KX.fr hk)) fun vs H1 ⟨ds, φ1, m1, ex, hm1, hd, hk1⟩ => by
    unfold argF at hk1
    by_cases hn : ds.length = n
    · rw [if_pos hn] at hk1
      exact ⟨by rw [← hd.length]; exact hn, call_spF hm1 hd hn hk1⟩
    · rw [if_neg hn] at hk1
      exact hk1.elim⟩
/-- f() -/
theorem x_call0 (Ff : FnG X.prog X.w X.K X.mg X.base CX kf f fd ps (spF g 0 F)) (gu : X.A.guards = some []) (hr : Room kf X.A) (hg : Gl X x) (hm : X.mg x = some (.ref f)) (hk : PySem.W.keepIn X.K (.ref f) = true) (hb : Bnd X.K fd ps [] 0 []) (hx : Passes CX X Ek)
    (hdb : (x == ("__debug__" : Str)) = false := by decide) : XP X g E (.Call (.Name x p) [] [] pos) (fnF (argF 0 F) nilF) :=
  PE.weaken (pg_call0 Ff gu hr hg hm hk hb hx hdb) fun σ H Q ⟨φ, L, m, hl, hm, hk⟩ => by
    have hk : KX g E (callF F [] m) φ H Q := KX.fr hk
    exact call_spF hm (show RpA g.K φ H [] [] from rfl) rfl hk
/-- keyword arguments: PK by values -/
def XK' (X : Cx) (g : Gc) (E : EX) (kws : List Keyword) (f : Evs) : Prop := PK X kws (tXs g E f)
theorem xk_nil : XK' X g E [] nilF := ⟨fun pos pins s σ H Q I ⟨φ, L, m, hl, hm, hk⟩ => pk_nil.run pos pins s σ H Q I (hk φ H [] Ext.refl hm rfl)⟩
end
end
end Core

set_option Elab.async false
set_option linter.all false
set_option maxRecDepth 100000
set_option maxHeartbeats 4000000
/-! Keyword calls; defs by their bodies; the law's end. -/
namespace Core
noncomputable section
open PySem PySem.Spec PyProof.Rows L2

section
variable {X : Cx} {g : Gc} {E : EX} {k kf : Nat} {e : Expr} {es : List Expr} {hs hw : Evs} {fe : Ev} {F : List D → Mem → Out D} {CX : CXT} {Ek : XK} {f : Addr} {fd : FuncData} {ps ks : List Str} {x : Str} {p pos kpos : Pos} {kws : List Keyword} {nm : Option Str}
theorem xk_cons (ha : XP X g E e fe) (hr : XK' X g E kws hw) : XK' X g E (⟨nm, e, kpos⟩ :: kws) (consF fe hw) := by
  refine ⟨fun pos pins s σ H Q I ⟨φ, L, m, hl, hm, hk⟩ => (pk_cons (nm := nm) (kpos := kpos) ha hr).run pos pins s σ H Q I ⟨φ, L, m, hl, hm, ?_⟩⟩
  refine KX.mono (KX.bindS hk) fun v H1 ⟨d, φ1, m1, ex, hm1, hd, hk1⟩ => ⟨φ1, L, m1, hl.ext hm ex, hm1, ?_⟩
  exact KXs.mono (KXs.bindS hk1) fun vs H2 ⟨ds, φ2, m2, ex2, hm2, hd2, hk2⟩ => hk2 φ2 H2 _ Ext.refl hm2 ⟨v, vs, rfl, hd.ext hm1 ex2, hd2⟩
/-- n arguments by position, q by keyword; ix: which keyword's value stands where -/
def kwF (n q : Nat) (ix : List Nat) (F : List D → Mem → Out D) (hs hw : Evs) : Ev := fun L m => bindO (hs L m) fun ds m => bindO (hw L m) fun ws m =>
  if ds.length = n ∧ ws.length = q then callF F (ds ++ ix.map fun i => ws.getD i .non) m else .bad
theorem RpA.getDs {K : PySem.W.Frag} {φ : List Addr} {H : Hp} {ws : List D} {zs : List V} (h : RpA K φ H ws zs) : ∀ (ix : List Nat), (∀ i ∈ ix, i < ws.length) → RpA K φ H (ix.map fun i => ws.getD i .non) (ix.map fun i => zs.getD i .non)
  | [], _ => rfl
  | i :: ix, hi => by
    have hlt := hi i List.mem_cons_self
    obtain ⟨v, e1, e2⟩ := h.get (List.getElem?_eq_getElem hlt)
    refine ⟨zs.getD i .non, _, rfl, ?_, RpA.getDs h ix fun j hj => hi j (List.mem_cons_of_mem _ hj)⟩
    simp only [List.getD_eq_getElem?_getD]
    rw [e1, List.getElem?_eq_getElem hlt]
    exact e2
theorem kw_go {n : Nat} {ix : List Nat} {ds ws : List D} {vs zs : List V} {Q : VK} {φ : List Addr} {m : Mem} {H : Hp} (hl : n + ix.length = ps.length) (hi : ∀ i ∈ ix, i < ks.length) (hm : RM g φ m H) (hd : RpA g.K φ H ds vs) (hw : RpA g.K φ H ws zs)
    (hk : KX g E (if ds.length = n ∧ ws.length = ks.length then callF F (ds ++ ix.map fun i => ws.getD i .non) m else .bad) φ H Q) : vs.length = n ∧ zs.length = ks.length ∧ spF g ps.length F (vs ++ ix.map fun i => zs.getD i .non) H Q Ek := by
  by_cases hn : ds.length = n ∧ ws.length = ks.length
  · rw [if_pos hn] at hk
    refine ⟨by rw [← hd.length]; exact hn.1, by rw [← hw.length]; exact hn.2, call_spF hm (RpA.append hd (hw.getDs ix fun i h => by rw [hn.2]; exact hi i h)) ?_ hk⟩
    rw [List.length_append, List.length_map, hn.1]; exact hl
  · rw [if_neg hn] at hk
    exact hk.elim
/-- f(e, .., k = v, ..) -/
theorem x_callK {n : Nat} {ix : List Nat} (Ff : FnG X.prog X.w X.K X.mg X.base CX kf f fd ps (spF g ps.length F)) (gu : X.A.guards = some []) (hr : Room kf X.A) (hg : Gl X x) (hm : X.mg x = some (.ref f)) (hk : PySem.W.keepIn X.K (.ref f) = true) (hb : Bnd X.K fd ps ks n ix) (hx : Passes CX X Ek)
    (ha : XPs X g E (e :: es) hs) (hkw : XK' X g E kws hw) (hall : (backToKw pos (keywordEach kws X.env)).all (·.1.isSome) = true := by rfl) (hks : (backToKw pos (keywordEach kws X.env)).filterMap (·.1) = ks := by rfl)
    (hdb : (x == ("__debug__" : Str)) = false := by decide) (he : starEach (e :: es) X.env = (false, eval e X.env) :: starEach es X.env := by rfl)
    (hpl : ((backTo pos (starEach (e :: es) X.env)).any (·.1) || (backToKw pos (keywordEach kws X.env)).any (·.1.isNone)) = false := by rfl) :
    XP X g E (.Call (.Name x p) (e :: es) kws pos) (kwF n ks.length ix F hs hw) := by
  refine ⟨fun pins s σ H Q I ⟨φ, L, m, hl, hmm, hq⟩ => ?_⟩
  refine wpAny_Call_Name_kw (ld_glob I hg hm ?_ hdb)
  have ta := KXs.mono (KXs.bind hq) fun vs H1 (h : ∃ ds φ1 m1, Ext φ H φ1 H1 ∧ RM g φ1 m1 H1 ∧ RpA g.K φ1 H1 ds vs ∧ _) => h
  refine PySem.W.callWith_KW (h₀ := X.base) I.ok.mod.kin hk hall (thn (ha.run pos pins s σ H _ I ⟨φ, L, m, hl, hmm, ta⟩) fun us s1 ⟨vs, H1, I1, r, ds, φ1, m1, ex, hm1, hd, hk1⟩ => ?_) hpl he
  refine thn (hkw.run pos pins s1 σ H1 _ I1 ⟨φ1, L, m1, hl.ext hmm ex, hm1, KXs.bind hk1⟩) fun ws s2 ⟨zs, H2, I2, rz, wds, φ2, m2, ex2, hm2, hd2, hk2⟩ => ⟨I2.kIn, ?_⟩
  rw [hks]
  obtain ⟨l1, l2, hsp⟩ := kw_go (Ek := Ek) hb.len hb.lt hm2 (hd.ext hm1 ex2) hd2 hk2
  exact run_fg Ff gu hr hb hx I2 r rz l1 l2 hsp
/-- f(k = v, ..) -/
theorem x_callK0 {ix : List Nat} (Ff : FnG X.prog X.w X.K X.mg X.base CX kf f fd ps (spF g ps.length F)) (gu : X.A.guards = some []) (hr : Room kf X.A) (hg : Gl X x) (hm : X.mg x = some (.ref f)) (hk : PySem.W.keepIn X.K (.ref f) = true) (hb : Bnd X.K fd ps ks 0 ix) (hx : Passes CX X Ek)
    (hkw : XK' X g E kws hw) (hall : (backToKw pos (keywordEach kws X.env)).all (·.1.isSome) = true := by rfl) (hks : (backToKw pos (keywordEach kws X.env)).filterMap (·.1) = ks := by rfl)
    (hdb : (x == ("__debug__" : Str)) = false := by decide) (hpl : ((backTo pos (starEach [] X.env)).any (·.1) || (backToKw pos (keywordEach kws X.env)).any (·.1.isNone)) = false := by rfl) :
    XP X g E (.Call (.Name x p) [] kws pos) (kwF 0 ks.length ix F nilF hw) := by
  refine ⟨fun pins s σ H Q I ⟨φ, L, m, hl, hmm, hq⟩ => ?_⟩
  refine wpAny_Call_Name_kw (ld_glob I hg hm ?_ hdb)
  have hq : KX g E (bindO (hw L m) fun ws m => if ([] : List D).length = 0 ∧ ws.length = ks.length then callF F ([] ++ ix.map fun i => ws.getD i .non) m else .bad) φ H Q := hq
  refine PySem.W.callWith_KW0 (h₀ := X.base) I.ok.mod.kin hk hall ?_ hpl
  refine thn (hkw.run pos pins s σ H _ I ⟨φ, L, m, hl, hmm, KXs.bind hq⟩) fun ws s2 ⟨zs, H2, I2, rz, wds, φ2, m2, ex2, hm2, hd2, hk2⟩ => ⟨I2.kIn, ?_⟩
  rw [hks]
  obtain ⟨l1, l2, hsp⟩ := kw_go (Ek := Ek) (vs := []) hb.len hb.lt hm2 (show RpA g.K φ2 H2 [] [] from rfl) hd2 hk2
  exact run_fg Ff gu hr hb hx I2 .nil rz l1 l2 hsp
end

section
variable {P : Program} {w : World} {K : PySem.W.Frag} {mg : Str → Option Value} {base : Heap} {CX : CXT} {k : Nat} {f : Addr} {fd : FuncData} {N ps : List Str} {sp : Sp} {g : Gc} {x qual : Str} {params : Arguments} {body : List Stmt} {scope : Scope} {dvs : List V} {kws : List (Str × V)}
/-- by its body, the function object by a head's facts -/
theorem fgd_of (F : FunD K x qual params body scope dvs kws f fd) (S : FnScope N ps scope) (len : ∀ vs H Q E, sp vs H Q E → vs.length = ps.length)
    (hbody : ∀ (cdv : Value) (A : Around) (outer : List Env) (s : Shared) (H : Hp) (vs : List V) (Q : VK) (E : XK), A.guards = some [] → Room k (A.deeper (envOfC qual scope s.heap.objs.size f cdv)) → sp vs H Q E →
      ∃ t, PSs (cxOf CX P w K mg base N qual scope f cdv A outer s H E) body t ∧ t { nx := fun _ H' => Q .non H', rt := Q } (L2.start N vs) H) :
    FnG P w K mg base CX (k + 1) f fd ps sp := by
  obtain ⟨oc, od, dV, kV, doc, pm, an, cdv, ct, osl, rfl, lk, hcd, _, _⟩ := F.ex
  refine ⟨len, fun A outer s H args us vs Q E hg hr e0 hb r hsp => ?_⟩
  have hin : K.In s.heap := e0.mod.kin.keeps fun b o e => (e0.bs b o e).1
  have hlim : s.heap.NoLimit := e0.mod.nolimit.keeps fun b o e => (e0.bs b o e).1
  have hk : ∀ y ∈ ps.zip us, scope.names.lookup y.1 = some .local ∨ (scope.names.lookup y.1 = some .cell ∧ ((cellsFrom (s.heap.objs.size + 1) scope.names []).lookup y.1).isSome = true) := by
    rintro ⟨n, v⟩ hy
    rcases S.par n (List.of_mem_zip hy).1 with q | q
    · exact .inl q
    · exact .inr ⟨q, PySem.W.cellsFrom_some _ _ _ (.inl q)⟩
  refine codeAny_call_function hr.depth (hin _ _ lk) rfl S.co S.gen rfl (PySem.W.codeRec_of hin hcd) (hb _ _ _ _ ?_)
  refine wpAny_newFunctionEnv_cells S.kind hk fun env he s1 x => ?_
  subst he
  refine ⟨hlim.keeps x.toInCall.keep, codeAny_func ?_⟩
  obtain ⟨t, ht, hq⟩ := hbody cdv A outer s H vs Q E hg (hr.deeper _) hsp
  have I0 := inv_start (CX := CX) (E := E) (cd := cdv) (qual := qual) (f := f) S hr.hd e0 (len _ _ _ _ hsp) r x
  refine wpAny_mono (ht.run [] s1 _ H _ I0 hq) (fun fl s' hs => ?_) fun e s' hs => hs
  cases fl with
  | ret u =>
    obtain ⟨v, σ', H', J, rv, q⟩ := hs
    exact ⟨v, H', J.os, J.bare, J.base, J.hok, rv, q⟩
  | next =>
    obtain ⟨σ', H', J, q⟩ := hs
    exact ⟨V.non, H', J.os, J.bare, J.base, J.hok, rfl, q⟩
  | brk => obtain ⟨_, _, _, q⟩ := hs; exact q.elim
  | cont => obtain ⟨_, _, _, q⟩ := hs; exact q.elim
theorem start_RL {φ : List Addr} {H : Hp} {ds : List D} {vs : List V} (hd : RpA K φ H ds vs) : RL K φ H (ds.map some ++ List.replicate (N.length - ds.length) none) (L2.start N vs) := by
  unfold L2.start
  refine ⟨by simp [hd.length], fun i d e => ?_⟩
  by_cases hi : i < ds.length
  · rw [List.getElem?_append_left (by simpa using hi), List.getElem?_map] at e
    cases e2 : ds[i]? with
    | none => rw [e2] at e; cases e
    | some d2 =>
      rw [e2] at e
      cases e
      obtain ⟨v, q1, q2⟩ := hd.get e2
      refine ⟨v, ?_, q2⟩
      rw [List.getElem?_append_left (by rw [List.length_map, ← hd.length]; exact hi), List.getElem?_map, q1]
      rfl
  · rw [List.getElem?_append_right (by simpa using Nat.le_of_not_lt hi), List.getElem?_replicate] at e
    split at e <;> cases e
/-- a def reckons what its body's reading says -/
theorem fgF {t : Tr} (F : FunD K x qual params body scope dvs kws f fd) (S : FnScope N ps scope) (hK : K = g.K)
    (hbody : ∀ (cdv : Value) (A : Around) (outer : List Env) (s : Shared) (H : Hp) (E : XK), A.guards = some [] → Cok (cxOf CX P w K mg base N qual scope f cdv A outer s H E).nox g k → XSs (cxOf CX P w K mg base N qual scope f cdv A outer s H E).nox g E0x body t) :
    FnG P w K mg base CX (k + 1) f fd ps (spF g ps.length (bodyF N.length t)) :=
  fgd_of F S (fun vs H Q E h => h.1) fun cdv A outer s H vs Q E hg hr ⟨hl, φ, m, ds, hm, hd, hk⟩ => by
    refine ⟨_, (hbody cdv A outer s H E hg ⟨hK, rfl, hr, S.nd⟩).nox, φ, _, m, start_RL hd, hm, ?_⟩
    unfold bodyF at hk
    cases e : t (ds.map some ++ List.replicate (N.length - ds.length) none) m with
    | nx L' m' => rw [e] at hk; exact fun φ' H' σ' ex hm' hl' => hk φ' H' _ ex hm' rfl
    | rt d m' => rw [e] at hk; exact fun φ' H' v ex hm' hd' => hk φ' H' v ex hm' hd'
    | bk L' m' => rw [e] at hk; exact hk.elim
    | ct L' m' => rw [e] at hk; exact hk.elim
    | exc c fs m' => rw [e] at hk; exact fun φ' H' ex hm' => hk φ' H' ex hm'
    | bad => rw [e] at hk; exact hk.elim
/-- how its arguments are bound -/
theorem bnd_of {ks : List Str} {n : Nat} {ix : List Nat} (F : FunD K x qual params body scope [] kws f fd) (hl : n + ix.length = ps.length) (hi : ∀ i ∈ ix, i < ks.length)
    (h : ∀ (kV doc pm : Value) (an : Option Addr) (cdv ct : Value) (us ws : List Value), us.length = n → ws.length = ks.length →
      bindArgs (PySem.W.fnOf x qual params body scope .none kV doc pm an cdv ct) ⟨us, ks.zip ws⟩ = pure (ps.zip (us ++ ix.map fun i => ws.getD i .none))) : Bnd K fd ps ks n ix := by
  obtain ⟨oc, od, dV, kV, doc, pm, an, cdv, ct, osl, rfl, lk, hcd, hD, hK⟩ := F.ex
  rcases hD with ⟨_, rfl⟩ | ⟨e, _⟩
  · exact ⟨fun s us ws h1 h2 => .of_eq (h kV doc pm an cdv ct us ws h1 h2), hi, hl⟩
  · exact absurd rfl e
end

/-! ### the law's end -/
theorem law_callG {P : Program} {w : World} {K : PySem.W.Frag} {mg mb : Str → Option Value} {CX : CXT} {k : Nat} {fa a : Addr} {fd : FuncData} {x : Str} {sp : Sp} {s₁ : Shared} {vs : List Value} {ns : List Int}
    (kin : K.In s₁.heap) (hns : s₁.heap.Ns mainGlobals mg) (hb : s₁.heap.Ns builtinsNs mb) (hbb : ∀ x : Str, x ≠ "__name__" → mb x = bootBuiltins x) (hlim : s₁.heap.NoLimit) (hg : s₁.gens = #[])
    (ha : s₁.heap.get? a = some { cls := .type "list", data := .seq vs.toArray }) (hi : IntsAre vs ns) (hl : ns.length ≤ sizeLine) (hr : Room k callerA)
    (Fg : ∀ b0 : Heap, K.In b0 → b0.Ns mainGlobals mg → FnG P w K mg b0 CX k fa fd [x] sp) (hbind : ∀ (s : Shared) (u : Value), BindsTo s fd ⟨[u], []⟩ [(x, u)])
    (hsp : ∀ H : Hp, SqF K H a (ns.map V.int) → sp [.ref a] H (fun v _ => v = .bl true) fun _ _ _ => False) (hCX : ∀ H e s', CX [] H s₁ (fun _ _ _ => False) e s' → False) :
    codeAny (model P w) callerA (.call (.ref fa) ⟨[.ref a], []⟩) (fun r s' => r = .ok (.ret (.bool true)) ∧ OldK s₁.heap s'.heap ∧ s'.os = s₁.os ∧ AllBare s'.gens) s₁ := by
  have rv := vals_ints hi
  have main : ∀ H : Hp, SqF K H a (ns.map V.int) → HOk P w H s₁.heap → (∀ b, H b = none ∨ (b = a ∧ K.lookup a = none ∧ ∃ o xs, H b = some (.frz o (.lst xs)))) →
      codeAny (model P w) callerA (.call (.ref fa) ⟨[.ref a], []⟩) (fun r s' => r = .ok (.ret (.bool true)) ∧ OldK s₁.heap s'.heap ∧ s'.os = s₁.os ∧ AllBare s'.gens) s₁ := by
    intro H hS hok hA
    have lst_no_dict : ∀ {b : Addr} {o : Obj} {es : Array DictEntry} {ep : Nat}, s₁.heap.get? b = some o → o.data = .dict es ep → H b = none := fun {b o es ep} e d => by
      rcases hA b with q | ⟨rfl, _⟩
      · exact q
      · rw [ha] at e; cases e
        exact absurd (show Data.seq vs.toArray _ = Data.dict es ep from d) (fun z => by cases z)
    have ns_hid : ∀ {b : Addr} {m : Str → Option Value}, s₁.heap.Ns b m → (hidT s₁.heap H).Ns b m := fun {b m} ⟨o, es, ep, e, d, r⟩ => ⟨o, es, ep, hidT_get e (lst_no_dict e d), d, r⟩
    have kin_hid : K.In (hidT s₁.heap H) := fun b o e => hidT_get (kin b o e) (by
      rcases hA b with q | ⟨rfl, q, _⟩
      · exact q
      · rw [q] at e; cases e)
    have md : Mod K mg (hidT s₁.heap H) := ⟨kin_hid, ns_hid hns, ⟨mb, ns_hid hb, hbb⟩, let ⟨mc, h1, h2⟩ := hlim; ⟨mc, ns_hid h1, h2⟩⟩
    have env0 : Env0 P w K mg (hidT s₁.heap H) callerA [] s₁ H :=
      ⟨rfl, md, fun b o e => of_hidT e, Nat.le_of_eq (hidT_size _ _), trivial, fun b hb => absurd (show b ∈ ([] : List Addr) from hb) (by simp), hok, .of_eq hg⟩
    have go := (Fg _ kin_hid (ns_hid hns)).run callerA [] s₁ H ⟨[.ref a], []⟩ [.ref a] [.ref a] _ _ rfl hr env0 (hbind s₁ (.ref a)) (.cons rfl .nil) (hsp H hS)
    refine codeAny_mono go fun r s' h => ?_
    cases r with
    | error e => exact (hCX H e s' h).elim
    | ok fl =>
      cases fl with
      | ret u =>
        obtain ⟨v, H', os, bare, un, hok', r', q⟩ := h
        obtain rfl : v = .bl true := q
        obtain rfl : u = Value.bool true := r'
        refine ⟨rfl, OldK.of_keep fun b o e => ?_, os, bare⟩
        rcases hA b with q | ⟨_, _, ob, xs, q⟩
        · exact un.keep b o e q (by intro z; exact absurd (show b ∈ ([] : List Addr) from z) (by simp)) (by simp)
        · obtain ⟨e1, _⟩ := hok b _ q
          obtain ⟨e2, _⟩ := hok' b _ (un.frzs b ob _ q)
          rw [e] at e1; cases e1
          exact e2
      | next => exact False.elim h
      | brk => exact False.elim h
      | cont => exact False.elim h
  cases hk : K.lookup a with
  | some o =>
    have e := kin a o hk
    rw [ha] at e
    cases e
    exact main (fun _ => none) (.inr ⟨_, vs.toArray, _, hk, rfl, rfl, rfl, by rw [List.size_toArray, hi.length]; exact hl, by simpa using rv⟩) (fun b u z => by cases (show (none : Option HO) = some u from z)) fun b => .inl rfl
  | none =>
    let sc : Obj := { cls := .type "list", data := .seq vs.toArray }
    refine main (fun b => if b = a then some (.frz sc (.lst (ns.map V.int))) else none) (.inl ⟨sc, if_pos rfl⟩) (fun b u z => ?_) fun b => ?_
    · by_cases hba : b = a
      · have z' := (if_pos hba).symm.trans z
        cases z'
        subst hba
        exact ⟨ha, by rw [List.length_map]; exact hl, vs, _, rv, ha⟩
      · cases (if_neg hba).symm.trans z
    · by_cases hba : b = a
      · exact .inr ⟨hba, hk, _, _, if_pos hba⟩
      · exact .inl (if_neg hba)
theorem RpA.ints {K : PySem.W.Frag} {φ : List Addr} {H : Hp} : ∀ ns : List Int, RpA K φ H (ns.map D.int) (ns.map V.int)
  | [] => rfl
  | n :: ns => ⟨_, _, rfl, rfl, RpA.ints ns⟩
/-- a law whose def reckons F, and F answers True for every script -/
theorem walk_G {l : PySem.W.OpenLaw} {n k : Nat} {q : Program} {loose : List Str} {XP : (Str → Option Value) → Heap → Prop} {YP : World → Heap → Prop} {d : DefRec} {CX : World → CXT} {x : Str} {F : List D → Mem → Out D}
    (hn : l.most = some n) (hn2 : n ≤ sizeLine) (hdf : d.params.defaults = []) (hr : Room k callerA)
    (Fg : ∀ (w : World) (mg : Str → Option Value) (fa : Addr) (h : Heap), YP w h → h.Ns mainGlobals mg → mg d.name = some (.ref fa) →
      ∃ (g : Gc) (fd : FuncData), g.K.In h ∧ (∀ (s : Shared) (u : Value), BindsTo s fd ⟨[u], []⟩ [(x, u)]) ∧
        ∀ b0 : Heap, g.K.In b0 → b0.Ns mainGlobals mg → FnG l.prog w g.K mg b0 (CX w) k fa fd [x] (spF g 1 F))
    (hF : ∀ ns : List Int, ns.length ≤ n → (∀ z ∈ ns, Builtin.Int.intBits z ≤ 1048576) → ∃ m, F [.fl (ns.map D.int)] [] = .ok (.bl true) m)
    (hCX : ∀ (w : World) (H : Hp) (s : Shared) (e : Value) (s' : Shared), CX w [] H s (fun _ _ _ => False) e s' → False) :
    PySem.W.WalkO q loose XP YP l.row.toRowW d [] (fun f vs => PySem.call f vs) := by
  refine Att.attach_callB hn hdf fun w s₀ s₁ mg mb fa o pm cd doc a vs ns G Y ho hd hcd hmg hobj hints hlen hbits hg => ?_
  obtain ⟨g, fd, kin, hb, hFg⟩ := Fg w mg fa _ Y G.T.g hmg
  refine law_callG kin G.T.g G.T.b G.T.builtins G.T.nolimit hg hobj hints (Nat.le_trans hlen hn2) hr hFg hb (fun H hS => ?_) fun H e s' => hCX w H s₁ e s'
  refine ⟨rfl, [], [], [.fl (ns.map D.int)], RM.none, ⟨_, _, rfl, ⟨a, _, rfl, hS, RpA.ints ns⟩, rfl⟩, ?_⟩
  obtain ⟨m, e⟩ := hF ns hlen hbits
  rw [e]
  exact fun φ' H' v _ _ h => h
end
end Core

set_option Elab.async false
set_option linter.all false
set_option maxRecDepth 100000
set_option maxHeartbeats 4000000
/-! Methods of lists. -/
namespace Core
noncomputable section
open PySem PySem.Spec PyProof.Rows L2

def isLst (d : D) (m : Mem) : Bool := match d with
  | .ref n => match m[n]? with
    | some (.lst _) => true
    | _ => false
  | _ => false
/-- a method of a list -/
def lmF (o : D → List D → Mem → Out D) (f : Ev) (hs : Evs) : Ev := fun L m => bindO (f L m) fun x m => if isLst x m then bindO (hs L m) fun ds m => o x ds m else .bad
def appO (x : D) (ds : List D) (m : Mem) : Out D := match x, ds with
  | .ref n, [y] => bindO (appD n y m) fun _ m => .ok .non m
  | _, _ => .bad
def extO (x : D) (ds : List D) (m : Mem) : Out D := match x, ds with
  | .ref n, [.ref k] => match m[n]?, m[k]? with
    | some (.lst xs), some (.lst ys) => if xs.length + ys.length ≤ 16777216 then .ok .non (m.set n (.lst (xs ++ ys))) else .bad
    | _, _ => .bad
  | _, _ => .bad
def popO (x : D) (ds : List D) (m : Mem) : Out D := match x, ds with
  | .ref n, [] => match m[n]? with
    | some (.lst xs) => match xs[xs.length - 1]? with
      | some y => .ok y (m.set n (.lst xs.dropLast))
      | none => .bad
    | _ => .bad
  | _, _ => .bad
/-- what a method of the hand layer does, told of data -/
def MtD (X : Cx) (g : Gc) (E : EX) (id : String) (o : D → List D → Mem → Out D) : Prop := MtR X id fun x xs H Q => ∃ φ m d ds, RM g φ m H ∧ Rp g.K φ H d x ∧ RpA g.K φ H ds xs ∧ KX g E (o d ds m) φ H Q
section
variable {X : Cx} {g : Gc} {E : EX} {k : Nat} {a b : Expr} {f h q : Ev} {hs : Evs} {o : D → List D → Mem → Out D} {id : String} {φ : List Addr} {m : Mem} {H : Hp} {e : Expr} {es : List Expr} {name : Str} {apos cpos : Pos}
theorem lst_ty (hK : X.K = g.K) {d : D} {v : V} (hm : RM g φ m H) (hd : Rp g.K φ H d v) (h : isLst d m = true) : tyV X.K "list" v H := by
  unfold isLst at h
  cases d with
  | ref n =>
    simp only at h
    cases e : m[n]? with
    | none => rw [e] at h; cases h
    | some ob =>
      rw [e] at h
      cases ob with
      | lst ds =>
        obtain ⟨a, xs, rfl, _, q, _⟩ := hm.lst_at e hd
        exact .inl ⟨rfl, _, SqL.of q⟩
      | _ => cases h
  | _ => cases h
theorem x_lm (cc : Cok X g k) (slot : Slot "list" name id) (hty : typeOf (.builtin id) = pure (.type "method_descriptor")) (hm : MtD X g E id o) (ho : XP X g E a f) (ha : XPs X g E (e :: es) hs)
    (hbase : attributeBase a name X.env (eval a X.env) = eval a X.env := by rfl)
    (hfew : ((backTo cpos (starEach (e :: es) X.env)).all (fun x => !x.1) && (backToKw cpos (keywordEach [] X.env)).all (fun x => x.1.isSome) && decide ((e :: es).length + ([] : List Keyword).length + (if ([] : List Keyword).isEmpty then 0 else 1) < 30)) = true := by rfl)
    (hline : (apos.endLine == cpos.line) = true := by rfl) (hst : starEach (e :: es) X.env = (false, eval e X.env) :: starEach es X.env := by rfl) (hplain : (backTo cpos (starEach es X.env)).any (·.1) = false := by rfl) :
    XP X g E (.Call (.Attribute a name apos) (e :: es) [] cpos) (lmF o f hs) :=
  PE.weaken (pe_bm PySem.F.plainAttrs_list slot hty hm ho ha hbase hfew hline hst hplain) fun σ H Q ⟨φ, L, m, hl, hmm, hk⟩ => ⟨φ, L, m, hl, hmm, KX.mono (KX.bind hk) fun v H1 ⟨d, φ1, m1, ex, hm1, hd, hk1⟩ => by
    by_cases hi : isLst d m1 = true
    · rw [if_pos hi] at hk1
      refine ⟨lst_ty cc.K hm1 hd hi, φ1, L, m1, hl.ext hmm ex, hm1, KXs.mono (KXs.bind hk1) fun vs H2 ⟨ds, φ2, m2, ex2, hm2, hds, hk2⟩ => ⟨φ2, m2, d, ds, hm2, hd.ext hm1 ex2, hds, hk2⟩⟩
    · rw [if_neg hi] at hk1
      exact hk1.elim⟩
theorem x_lm0 (cc : Cok X g k) (slot : Slot "list" name id) (hty : typeOf (.builtin id) = pure (.type "method_descriptor")) (hm : MtD X g E id o) (ho : XP X g E a f)
    (hbase : attributeBase a name X.env (eval a X.env) = eval a X.env := by rfl) (hline : (apos.endLine == cpos.line) = true := by rfl) :
    XP X g E (.Call (.Attribute a name apos) [] [] cpos) (lmF o f nilF) :=
  PE.weaken (pe_bm0 PySem.F.plainAttrs_list slot hty hm ho hbase hline) fun σ H Q ⟨φ, L, m, hl, hmm, hk⟩ => ⟨φ, L, m, hl, hmm, KX.mono (KX.bind hk) fun v H1 ⟨d, φ1, m1, ex, hm1, hd, hk1⟩ => by
    by_cases hi : isLst d m1 = true
    · rw [if_pos hi] at hk1
      exact ⟨lst_ty cc.K hm1 hd hi, φ1, m1, d, [], hm1, hd, rfl, hk1⟩
    · rw [if_neg hi] at hk1
      exact hk1.elim⟩
theorem d_append : MtD X g E "list.append" appO := by
  intro pins s σ H x vs v us Q I rx rv ⟨φ, m, d, ds, hm, hd, hds, hk⟩
  unfold appO at hk
  split at hk
  · rename_i n y
    obtain ⟨u, rfl, r1⟩ := hds.one
    unfold appD at hk
    cases e : m[n]? with
    | none => rw [e] at hk; exact hk.elim
    | some ob =>
      rw [e] at hk
      cases ob with
      | lst es =>
        simp only at hk
        by_cases hz : es.length < 16777216
        · rw [if_pos hz, frcL_eq, setK_eq] at hk
          obtain ⟨a, xs, rfl, hn, hH, hxs⟩ := hm.lst_at e hd
          refine mt_append pins s σ H _ _ v us Q I rx rv ⟨a, xs, u, rfl, rfl, hH, by rw [← lim_eq, ← hxs.length]; exact hz, ?_⟩
          exact KX.setL (E := E) (d := .non) hm hn (hxs.append hds) rfl hk
        · rw [if_neg hz] at hk
          exact hk.elim
      | dic _ => exact hk.elim
      | ins _ _ => exact hk.elim
  · exact hk.elim
theorem x_append (cc : Cok X g k) (ho : XP X g E a f) (ha : XPs X g E [e] hs) (hbase : attributeBase a "append" X.env (eval a X.env) = eval a X.env := by rfl)
    (hfew : ((backTo cpos (starEach [e] X.env)).all (fun x => !x.1) && (backToKw cpos (keywordEach [] X.env)).all (fun x => x.1.isSome) && decide (([e] : List Expr).length + ([] : List Keyword).length + (if ([] : List Keyword).isEmpty then 0 else 1) < 30)) = true := by rfl)
    (hline : (apos.endLine == cpos.line) = true := by rfl) (hst : starEach [e] X.env = (false, eval e X.env) :: starEach [] X.env := by rfl) (hplain : (backTo cpos (starEach [] X.env)).any (·.1) = false := by rfl) :
    XP X g E (.Call (.Attribute a "append" apos) [e] [] cpos) (lmF appO f hs) := x_lm cc PySem.F.slot_list_append PySem.F.type_list_append d_append ho ha hbase hfew hline hst hplain
end
end
end Core

set_option Elab.async false
set_option linter.all false
set_option maxRecDepth 100000
set_option maxHeartbeats 4000000
/-! The module's own constants. -/
namespace Core
noncomputable section
open PySem PySem.Spec PyProof.Rows L2
section
variable {X : Cx} {g : Gc} {E : EX} {pos : Pos}
theorem x_globI {x : Str} {i : Int} (hg : Gl X x) (hm : ∃ t, X.mg x = some (.int i t)) (hd : (x == ("__debug__" : Str)) = false := by decide) : XP X g E (.Name x pos) (cF (.int i)) := by
  obtain ⟨t, h⟩ := hm
  exact x_c (pe_glob hg h (v := .int i) ⟨t, rfl⟩ hd) fun _ _ => rfl
theorem x_globS {x z : Str} (hg : Gl X x) (hm : ∃ t, X.mg x = some (.str z t)) (hd : (x == ("__debug__" : Str)) = false := by decide) : XP X g E (.Name x pos) (cF (.str z)) := by
  obtain ⟨t, h⟩ := hm
  exact x_c (pe_glob hg h (v := .str z) ⟨t, rfl⟩ hd) fun _ _ => rfl
end
end
end Core

set_option Elab.async false
set_option linter.all false
set_option maxRecDepth 100000
set_option maxHeartbeats 4000000
/-! A head by facts, with further facts of one's own. -/
namespace Core
noncomputable section
open PySem PySem.Spec PyProof.Rows L2
abbrev AlC : Type := He.AlD × Bool
abbrev FrB := PySem.W.Frag → Bool
def obsC (n : Nat) (fa : List He.Fa) (fn : List He.DefD) (ex : FrB) (gt : Addr → Option Obj) : AlC := (He.obsD fa fn (He.frG gt (He.asD gt n)), ex (He.frG gt (He.asD gt n)))
def hookC (n : Nat) (fa : List He.Fa) (fn : List He.DefD) (ex : FrB) : PySem.W.Hook where
  α := AlC
  obs := fun s => obsC n fa fn ex s.heap.get?
  val := fun _ => (He.valD fn, true)
  says := fun _ h => ∃ K : PySem.W.Frag, K.In h ∧ He.SaysD fa fn K ∧ ex K = true
  of := fun _ _ e => ⟨_, He.frG_in, congrArg Prod.fst e, congrArg Prod.snd e⟩
  keeps := fun _ _ _ ⟨K, hK, c⟩ k => ⟨K, PySem.W.Frag.In.keeps hK k, c⟩
theorem obsC_eq {n : Nat} {fa : List He.Fa} {fn : List He.DefD} {ex : FrB} {gt : Addr → Option Obj} {s : Shared} (h : ∀ a, gt a = s.heap.get? a) : obsC n fa fn ex gt = (hookC n fa fn ex).obs s := by
  have e : gt = s.heap.get? := funext h
  rw [e] <;> rfl
/-- the module's name x is a builtin function -/
def bltB (K : PySem.W.Frag) (x : Str) (id : String) : Bool := match PySem.W.nsIn K mainGlobals x with
  | some (some (.builtin i)) => decide (i = id)
  | _ => false
theorem blt_ok {K : PySem.W.Frag} {h : Heap} {mg : Str → Option Value} {x : Str} {id : String} (hK : K.In h) (G : h.Ns mainGlobals mg) (c : bltB K x id = true) : mg x = some (.builtin id) := by
  unfold bltB at c
  cases e : PySem.W.nsIn K mainGlobals x with
  | none => rw [e] at c; cases c
  | some o =>
    rw [e] at c
    cases o with
    | none => cases c
    | some v =>
      cases v with
      | builtin i =>
        have ei : i = id := of_decide_eq_true c
        rw [ei] at e
        exact PySem.W.mg_of hK G e
      | _ => cases c
end
end Core

set_option Elab.async false
set_option linter.all false
set_option maxRecDepth 100000
set_option maxHeartbeats 4000000
/-! The operators in a form that a reckoner takes quickly. -/
namespace Core
noncomputable section
open PySem PySem.Spec PyProof.Rows L2
def intQ (i : Int) (m : Mem) : Out D := frcI i fun i => .ok (.int i) m
theorem intQ_eq (i : Int) (m : Mem) : intQ i m = .ok (.int i) m := frcI_eq i fun i => Out.ok (D.int i) m
def addQ : Op2 := fun x y m => match x with
  | .int i => (match y with
    | .int j => intQ (Int.add i j) m
    | _ => .bad)
  | _ => frcO (addD x y m)
def subQ : Op2 := fun x y m => match x with
  | .int i => (match y with
    | .int j => intQ (Int.sub i j) m
    | _ => .bad)
  | _ => .bad
def mulQ : Op2 := fun x y m => match x with
  | .int i => (match y with
    | .int j => (match Nat.ble i.natAbs 18446744073709551615 with
      | true => intQ (Int.mul i j) m
      | false => (match mulOk i j with
        | true => intQ (Int.mul i j) m
        | false => .bad))
    | _ => .bad)
  | _ => frcO (mulD x y m)
def getK {α : Type} (l : List α) (i : Nat) : Option α :=
  List.rec (motive := fun _ => Nat → Option α) (fun _ => none) (fun x _ ih n => Nat.rec (motive := fun _ => Option α) (some x) (fun n _ => ih n) n) l i
theorem getK_eq {α : Type} : ∀ (l : List α) (i : Nat), getK l i = l[i]?
  | [], _ => rfl
  | x :: r, 0 => rfl
  | x :: r, n + 1 => by
    rw [List.getElem?_cons_succ]
    exact getK_eq r n
/-- the list at n, told to k -/
def lstK {α : Type} (m : Mem) (n : Nat) (k : List D → α) (z : α) : α := match getK m n with
  | some o => (match o with
    | .lst ds => k ds
    | _ => z)
  | none => z
def setQ (o i v : D) (m : Mem) : Out Unit := match o with
  | .ref n => (match i with
    | .int k => (match k with
      | .ofNat j => lstK m n (fun ds => (match getK ds j with
        | some _ => setK ds j v fun ds => setK m n (.lst ds) fun m => .ok () m
        | none => .bad)) .bad
      | .negSucc _ => setD o i v m)
    | _ => .bad)
  | _ => .bad
def gSQ (f h : Ev) : Tg := fun d L m => bindO (f L m) fun o m => bindO (h L m) fun i m => bindO (setQ o i d m) fun _ m => .ok L m
def modQ : Op2 := fun x y m => frcO (modD x y m)
def fdivQ : Op2 := fun x y m => frcO (fdivD x y m)
def powQ : Op2 := fun x y m => frcO (powD x y m)
def ixQ : Op2 := fun x y m => match x with
  | .ref n => (match y with
    | .int k => (match k with
      | .ofNat j => lstK m n (fun ds => (match getK ds j with
        | some d => .ok d m
        | none => .bad)) .bad
      | .negSucc _ => ixD (.ref n) (.int k) m)
    | _ => .bad)
  | _ => ixD x y m
theorem addQ_eq : addQ = addD := by
  funext x y m
  cases x with
  | int i =>
    cases y with
    | int j => exact intQ_eq (i + j) m
    | _ => rfl
  | _ => simp only [addQ, frcO_eq]
theorem subQ_eq : subQ = subD := by
  funext x y m
  cases x <;> first | rfl | skip
  cases y <;> first | rfl | skip
  exact intQ_eq _ _
theorem mulQ_eq : mulQ = mulD := by
  funext x y m
  by_cases hxy : ∃ i j, x = .int i ∧ y = .int j
  case neg =>
    cases x with
    | int i =>
      cases y with
      | int j => exact absurd ⟨i, j, rfl, rfl⟩ hxy
      | _ => rfl
    | _ => simp only [mulQ, frcO_eq]
  obtain ⟨i, j, rfl, rfl⟩ := hxy
  show (match Nat.ble i.natAbs 18446744073709551615 with
      | true => intQ (i * j) m
      | false => (match mulOk i j with
        | true => intQ (i * j) m
        | false => .bad)) = if mulOk i j = true then .ok (.int (i * j)) m else .bad
  cases e : Nat.ble i.natAbs 18446744073709551615 with
  | true =>
    have h : i.natAbs < 18446744073709551616 := Nat.lt_succ_of_le (Nat.le_of_ble_eq_true e)
    have hm : mulOk i j = true := by unfold mulOk; simp [h]
    rw [if_pos hm]
    exact intQ_eq _ _
  | false =>
    cases e2 : mulOk i j with
    | true => rw [if_pos rfl]; exact intQ_eq _ _
    | false => rfl
theorem modQ_eq : modQ = modD := by funext x y m; exact frcO_eq _
theorem fdivQ_eq : fdivQ = fdivD := by funext x y m; exact frcO_eq _
theorem powQ_eq : powQ = powD := by funext x y m; exact frcO_eq _
theorem atD_nat (ds : List D) (j : Nat) : atD ds (Int.ofNat j) = ds[j]? := by
  unfold atD ixN
  have h0 : (0 : Int) ≤ Int.ofNat j := Int.natCast_nonneg j
  by_cases h : j < ds.length
  · have h1 : Int.ofNat j < (ds.length : Int) := Int.ofNat_lt.mpr h
    rw [if_pos h0, if_pos h1]
    rfl
  · have h1 : ¬ Int.ofNat j < (ds.length : Int) := fun z => h (Int.ofNat_lt.mp z)
    rw [if_pos h0, if_neg h1, List.getElem?_eq_none (Nat.le_of_not_lt h)]
    rfl
theorem ixN_nat (n j : Nat) : ixN n (Int.ofNat j) = if j < n then some j else none := by
  unfold ixN
  have h0 : (0 : Int) ≤ Int.ofNat j := Int.natCast_nonneg j
  rw [if_pos h0]
  by_cases h : j < n
  · have h1 : Int.ofNat j < (n : Int) := Int.ofNat_lt.mpr h
    rw [if_pos h1, if_pos h]; rfl
  · have h1 : ¬ Int.ofNat j < (n : Int) := fun z => h (Int.ofNat_lt.mp z)
    rw [if_neg h1, if_neg h]
theorem ixQ_eq : ixQ = ixD := by
  funext x y m
  cases x <;> first | rfl | skip
  cases y <;> first | rfl | skip
  rename_i n k
  cases k with
  | negSucc _ => rfl
  | ofNat j =>
    simp only [ixQ, ixD, lstK, getK_eq]
    cases m[n]? with
    | none => rfl
    | some o =>
      cases o with
      | lst ds =>
        simp only [atD_nat]
        all_goals (cases ds[j]? <;> rfl)
      | _ => rfl
theorem setQ_eq : setQ = setD := by
  funext x y v m
  cases x <;> first | rfl | skip
  cases y <;> first | rfl | skip
  rename_i n k
  cases k with
  | negSucc _ => rfl
  | ofNat j =>
    simp only [setQ, setD, lstK, getK_eq]
    cases m[n]? with
    | none => rfl
    | some o =>
      cases o with
      | lst ds =>
        simp only [ixN_nat]
        by_cases h : j < ds.length
        · rw [List.getElem?_eq_getElem h, if_pos h]
        · rw [List.getElem?_eq_none (Nat.le_of_not_lt h), if_neg h]
      | _ => rfl
theorem gSQ_eq (f h : Ev) : gSQ f h = gS f h := by
  unfold gSQ gS
  rw [setQ_eq]
section
variable {X : Cx} {g : Gc} {E : EX} {k : Nat} {a b : Expr} {f h : Ev} {pos : Pos}
theorem q_add (c : Cok X g k) : OpD X g E (binaryOp .Add) addQ := addQ_eq ▸ o_add c
theorem q_sub : OpD X g E (binaryOp .Sub) subQ := subQ_eq ▸ o_sub
theorem q_mul (c : Cok X g k) : OpD X g E (binaryOp .Mult) mulQ := mulQ_eq ▸ o_mul c
theorem q_mod : OpD X g E (binaryOp .Mod) modQ := modQ_eq ▸ o_mod
theorem q_fdiv : OpD X g E (binaryOp .FloorDiv) fdivQ := fdivQ_eq ▸ o_fdiv
theorem q_pow : OpD X g E (binaryOp .Pow) powQ := powQ_eq ▸ o_pow
theorem q_ix (cc : Cok X g k) (ha : XP X g E a f) (hb : XP X g E b h) (hs : PlainIx b := by intro _ _; rfl) : XP X g E (.Subscript a b pos) (binF ixQ f h) := ixQ_eq ▸ x_ix cc ha hb hs
theorem q_sub_tg {o i : Expr} (ho : XP X g E o f) (hi : XP X g E i h)
    (ha : ∀ v, assign (.Subscript o i pos) X.env v = (do
      let ov ← holding [v] (eval o X.env); let iv ← holding [v, ov] (eval i X.env); standAt pos; holding [v, ov, iv] (setItem ov iv v); release [v, ov, iv] []) := by intro _; rfl) : XG X g E (.Subscript o i pos) (gSQ f h) := gSQ_eq f h ▸ g_sub ho hi ha
end
end
end Core

set_option Elab.async false
set_option linter.all false
set_option maxRecDepth 100000
set_option maxHeartbeats 4000000
/-! Reckoning by hand: how a reading goes on at known places. -/
namespace Core
noncomputable section
open PySem PySem.Spec PyProof.Rows L2
theorem ev_bind {α β : Type} {o : Out α} {k : α → Mem → Out β} {a : α} {m : Mem} (h : o = .ok a m) : bindO o k = k a m := by rw [h]; rfl
theorem ev_seq {f h : Tr} {L L1 : Sl} {m m1 : Mem} (e : f L m = .nx L1 m1) : seqT f h L m = h L1 m1 := by unfold seqT; rw [e]
theorem ev_seq_rt {f h : Tr} {L : Sl} {m m1 : Mem} {d : D} (e : f L m = .rt d m1) : seqT f h L m = .rt d m1 := by unfold seqT; rw [e]
theorem ev_set {i : Nat} {f : Ev} {L : Sl} {m m1 : Mem} {d : D} (e : f L m = .ok d m1) : setT i f L m = .nx (L.set i (some d)) m1 := by
  unfold setT bndS
  rw [e]
  exact setK_eq _ _ _ _
theorem ev_ret {f : Ev} {L : Sl} {m m1 : Mem} {d : D} (e : f L m = .ok d m1) : retT f L m = .rt d m1 := by unfold retT bndS; rw [e]
theorem ev_if {c : Evb} {f h : Tr} {L : Sl} {m m1 : Mem} {b : Bool} (e : c L m = .ok b m1) : ifT c f h L m = if b then f L m1 else h L m1 := by unfold ifT bndS; rw [e]
theorem ev_bin {o : Op2} {f h : Ev} {L : Sl} {m m1 m2 : Mem} {x y : D} (e1 : f L m = .ok x m1) (e2 : h L m1 = .ok y m2) : binF o f h L m = o x y m2 := by unfold binF; rw [ev_bind e1, ev_bind e2]
theorem ev_tst {f : Ev} {L : Sl} {m m1 : Mem} {b : Bool} (e : f L m = .ok (.bl b) m1) : tstF f L m = .ok b m1 := by unfold tstF; rw [ev_bind e]; rfl
theorem ev_cons {f : Ev} {h : Evs} {L : Sl} {m m1 m2 : Mem} {d : D} {ds : List D} (e1 : f L m = .ok d m1) (e2 : h L m1 = .ok ds m2) : consF f h L m = .ok (d :: ds) m2 := by unfold consF; rw [ev_bind e1, ev_bind e2]
theorem ev_fn {o : Fn1} {h : Evs} {L : Sl} {m m1 : Mem} {ds : List D} (e : h L m = .ok ds m1) : fnF o h L m = o ds m1 := by unfold fnF; rw [ev_bind e, frcO_eq]
theorem ev_ite {c : Evb} {f h : Ev} {L : Sl} {m m1 : Mem} {b : Bool} (e : c L m = .ok b m1) : iteF c f h L m = if b then f L m1 else h L m1 := by unfold iteF; rw [ev_bind e]
theorem ev_lst {h : Evs} {L : Sl} {m m1 : Mem} {ds : List D} (e : h L m = .ok ds m1) (hz : ds.length ≤ 16777216) : lstF h L m = .ok (.ref m1.length) (m1 ++ [.lst ds]) := by unfold lstF; rw [ev_bind e, if_pos hz, frcO_eq]
theorem ev_asg_sub {f a b : Ev} {L : Sl} {m m1 m2 m3 : Mem} {d : D} {n : Nat} {i : Int} {j : Nat} {ds : List D} (e : f L m = .ok d m1) (e1 : a L m1 = .ok (.ref n) m2) (e2 : b L m2 = .ok (.int i) m3) (hn : m3[n]? = some (.lst ds)) (hj : ixN ds.length i = some j) :
    asgT f (gSQ a b) L m = .nx L (m3.set n (.lst (ds.set j d))) := by
  have h : gSQ a b d L m1 = .ok L (m3.set n (.lst (ds.set j d))) := by
    rw [gSQ_eq]
    unfold gS
    rw [ev_bind e1, ev_bind e2]
    have e3 : setD (.ref n) (.int i) d m3 = .ok () (m3.set n (.lst (ds.set j d))) := by
      simp only [setD, hn, hj, setK_eq]
    rw [ev_bind e3]
  show bndS (f L m) (fun d m => bndS (gSQ a b d L m) fun L m => .nx L m) = _
  rw [e]
  show bndS (gSQ a b d L m1) (fun L m => .nx L m) = _
  rw [h]
  rfl
theorem ev_add {i j : Int} {m : Mem} : addQ (.int i) (.int j) m = .ok (.int (i + j)) m := by rw [addQ_eq]; rfl
theorem ev_sub {i j : Int} {m : Mem} : subQ (.int i) (.int j) m = .ok (.int (i - j)) m := by rw [subQ_eq]; rfl
theorem ev_mulL {i j : Int} {m : Mem} (h : i.natAbs < 18446744073709551616) : mulQ (.int i) (.int j) m = .ok (.int (i * j)) m := by
  rw [mulQ_eq]
  show (if mulOk i j = true then Out.ok (D.int (i * j)) m else .bad) = _
  rw [if_pos (by unfold mulOk; simp [h])]
theorem ev_mulR {i j : Int} {m : Mem} (h : j.natAbs < 18446744073709551616) : mulQ (.int i) (.int j) m = .ok (.int (i * j)) m := by
  rw [mulQ_eq]
  show (if mulOk i j = true then Out.ok (D.int (i * j)) m else .bad) = _
  rw [if_pos (by unfold mulOk; simp [h])]
theorem ev_mod {i j : Int} {m : Mem} (h : j ≠ 0) : modQ (.int i) (.int j) m = .ok (.int (i.fmod j)) m := by
  rw [modQ_eq]
  exact if_pos h
theorem ev_fdiv {i j : Int} {m : Mem} (h : divOk j = true) : fdivQ (.int i) (.int j) m = .ok (.int (i.fdiv j)) m := by
  rw [fdivQ_eq]
  exact if_pos h
theorem nthK_z {α : Type} {x : Option α} {r : List (Option α)} : nthK (x :: r) 0 = x := rfl
theorem nthK_s {α : Type} {x : Option α} {r : List (Option α)} {n : Nat} : nthK (x :: r) (n + 1) = nthK r n := rfl
theorem ev_gt {i j : Int} {m : Mem} : gtD (.int i) (.int j) m = .ok (.bl (decide (j < i))) m := rfl
theorem ev_lt {i j : Int} {m : Mem} : ltD (.int i) (.int j) m = .ok (.bl (decide (i < j))) m := rfl
theorem ev_ge {i j : Int} {m : Mem} : geD (.int i) (.int j) m = .ok (.bl (decide (j ≤ i))) m := rfl
theorem ev_le {i j : Int} {m : Mem} : leD (.int i) (.int j) m = .ok (.bl (decide (i ≤ j))) m := rfl
theorem ev_intD {i : Int} {m : Mem} : Core.intD [.int i] m = .ok (.int i) m := rfl
theorem ev_absD {i : Int} {m : Mem} : absD [.int i] m = .ok (.int (if i < 0 then -i else i)) m := rfl
theorem ev_maxD {i j : Int} {m : Mem} : maxD [.int i, .int j] m = .ok (.int (if j > i then j else i)) m := rfl
theorem ev_minD {i j : Int} {m : Mem} : minD [.int i, .int j] m = .ok (.int (if j < i then j else i)) m := rfl
theorem ev_lenF {ds : List D} {m : Mem} : lenD [.fl ds] m = .ok (.int ds.length) m := rfl
theorem ev_lenT {ds : List D} {m : Mem} : lenD [.tup ds] m = .ok (.int ds.length) m := rfl
theorem ev_ixL {n j : Nat} {m : Mem} {ds : List D} {d : D} (h : m[n]? = some (.lst ds)) (e : ds[j]? = some d) : ixQ (.ref n) (.int (Int.ofNat j)) m = .ok d m := by
  rw [ixQ_eq]
  show (match m[n]? with
    | some (.lst ds) => (match atD ds (Int.ofNat j) with | some d => Out.ok d m | none => .bad)
    | _ => .bad) = _
  rw [h]
  show (match atD ds (Int.ofNat j) with | some d => Out.ok d m | none => .bad) = _
  rw [atD_nat, e]
theorem ev_ixF {j : Nat} {m : Mem} {ds : List D} {d : D} (e : ds[j]? = some d) : ixQ (.fl ds) (.int (Int.ofNat j)) m = .ok d m := by
  rw [ixQ_eq]
  show (match atD ds (Int.ofNat j) with | some d => Out.ok d m | none => .bad) = _
  rw [atD_nat, e]
theorem ev_setQ {n j : Nat} {m : Mem} {ds : List D} {d : D} (h : m[n]? = some (.lst ds)) (e : j < ds.length) : setQ (.ref n) (.int (Int.ofNat j)) d m = .ok () (m.set n (.lst (ds.set j d))) := by
  rw [setQ_eq]
  simp only [setD, h, ixN_nat, if_pos e, setK_eq]
theorem fd_step {t : Tg} {b : Tr} {it : Nat → Mem → Option (Option D)} {n i : Nat} {L L1 L2 : Sl} {m m1 m2 : Mem} {d : D} (h : it i m = some (some d)) (e : t d L m = .ok L1 m1) (eb : b L1 m1 = .nx L2 m2) : forD t b it (n + 1) i L m = forD t b it n (i + 1) L2 m2 := by
  simp only [forD]
  rw [h]
  simp only [bndS, e, eb]
theorem fd_stop {t : Tg} {b : Tr} {it : Nat → Mem → Option (Option D)} {n i : Nat} {L : Sl} {m : Mem} (h : it i m = some none) : forD t b it (n + 1) i L m = .nx L m := by
  simp only [forD]
  rw [h]
theorem fl_step {t : Tg} {b : Tr} {r : List D} {L L1 L2 : Sl} {m m1 m2 : Mem} {d : D} (e : t d L m = .ok L1 m1) (eb : b L1 m1 = .nx L2 m2) : forL t b (d :: r) L m = forL t b r L2 m2 := by
  simp only [forL, bndS, e, eb]
theorem noRs_ints : ∀ ns : List Int, noRs (ns.map D.int) = true
  | [] => rfl
  | n :: ns => by
    show (noR (D.int n) && noRs (ns.map D.int)) = true
    rw [noRs_ints ns]; rfl
end
end Core

set_option Elab.async false
set_option linter.all false
set_option maxRecDepth 100000
set_option maxHeartbeats 4000000
/-! The laws' own draws, first form: what a well is, what a draw gives. -/
namespace Core
noncomputable section
open PySem PySem.Spec PyProof.Rows L2
def wellLoop : Tr := (seqT (setT 3 (binF modQ (fnF Core.intD (consF (binF addQ (binF addQ (binF mulQ (varF 3) (cF (.int 40503))) (binF modQ (fnF Core.intD (consF (varF 4) nilF)) (cF (.int 2147483477)))) (cF (.int 43))) nilF)) (cF (.int 2147483587))))
  nxT)
def wellA : Tr := (seqT (setT 2 (iteF (tstF (binF ltD (varF 1) (fnF lenD (consF (varF 0) nilF)))) (fnF Core.intD (consF (binF ixQ (varF 0) (varF 1)) nilF)) (cF (.int 0))))
  (seqT (setT 3 (binF addQ (cF (.int 7)) (binF mulQ (cF (.int 1299709)) (varF 1))))
  (seqT (forT (seqI (slP (varF 0) none (some (cF (.int 9))))) (gN 4) wellLoop)
  (seqT (setT 3 (binF modQ (fnF Core.intD (consF (binF addQ (binF addQ (binF mulQ (varF 3) (cF (.int 48611))) (binF mulQ (binF modQ (fnF Core.intD (consF (varF 2) nilF)) (cF (.int 2147483477))) (cF (.int 16807)))) (cF (.int 17))) nilF)) (cF (.int 2147483587))))
  (seqT (retT (lstF (consF (iteF (tstF (binF geD (fnF absD (consF (varF 2) nilF)) (binF powQ (cF (.int 10)) (cF (.int 17))))) (fnF absD (consF (varF 2) nilF)) (cF (.int 0))) (consF (varF 3) (consF (cF (.int 0)) nilF)))))
  nxT)))))
def drawA : Tr := (seqT (ifT (tstF (binF gtD (binF ixQ (varF 0) (cF (.int 0))) (cF (.int 0)))) (seqT (setT 2 (binF modQ (fnF Core.intD (consF (binF ixQ (varF 0) (cF (.int 0))) nilF)) (varF 1)))
  (seqT (asgT (binF fdivQ (binF ixQ (varF 0) (cF (.int 0))) (varF 1)) (gSQ (varF 0) (cF (.int 0))))
  (seqT (retT (varF 2))
  nxT))) nxT)
  (seqT (asgT (binF addQ (binF ixQ (varF 0) (cF (.int 2))) (cF (.int 1))) (gSQ (varF 0) (cF (.int 2))))
  (seqT (setT 3 (binF modQ (fnF Core.intD (consF (binF addQ (binF addQ (binF mulQ (binF ixQ (varF 0) (cF (.int 1))) (cF (.int 16807))) (binF mulQ (cF (.int 50053)) (binF ixQ (varF 0) (cF (.int 2))))) (cF (.int 13))) nilF)) (cF (.int 2147483587))))
  (seqT (asgT (varF 3) (gSQ (varF 0) (cF (.int 1))))
  (seqT (retT (binF modQ (fnF Core.intD (consF (binF fdivQ (binF mulQ (varF 3) (binF addQ (binF modQ (fnF Core.intD (consF (varF 3) nilF)) (cF (.int 40009))) (cF (.int 20011)))) (cF (.int 3571))) nilF)) (varF 1)))
  nxT)))))
/-- three whole numbers, the first not negative -/
def WellL (ds : List D) : Prop := ∃ a b c : Int, 0 ≤ a ∧ ds = [.int a, .int b, .int c]
theorem set_get {w : Nat} {m : Mem} {o : MO} (h : w < m.length) : (m.set w o)[w]? = some o := List.getElem?_set_self h
theorem draw_A {m : Mem} {w : Nat} {ds : List D} {k : Int} (hw : m[w]? = some (.lst ds)) (W : WellL ds) (hk : 0 < k) (hk2 : k < 1000000) :
    ∃ r ds', bodyF 4 drawA [.ref w, .int k] m = .ok (.int r) (m.set w (.lst ds')) ∧ WellL ds' ∧ 0 ≤ r ∧ r < k := by
  obtain ⟨a, b, c, ha, rfl⟩ := W
  have hlt : w < m.length := (List.getElem?_eq_some_iff.mp hw).1
  have hd : divOk k = true := by
    have : k.natAbs < 1073741824 := by omega
    unfold divOk
    have h1 : k ≠ 0 := by omega
    simp [this, h1]
  have hk1 : k ≠ 0 := by omega
  have x0 : ∀ {m : Mem} {a b c : D}, m[w]? = some (.lst [a, b, c]) → ixQ (.ref w) (.int 0) m = .ok a m := fun h => ev_ixL (j := 0) h rfl
  have x1 : ∀ {m : Mem} {a b c : D}, m[w]? = some (.lst [a, b, c]) → ixQ (.ref w) (.int 1) m = .ok b m := fun h => ev_ixL (j := 1) h rfl
  have x2 : ∀ {m : Mem} {a b c : D}, m[w]? = some (.lst [a, b, c]) → ixQ (.ref w) (.int 2) m = .ok c m := fun h => ev_ixL (j := 2) h rfl
  have y0 : ∀ {m : Mem} {a b c d : D}, m[w]? = some (.lst [a, b, c]) → setQ (.ref w) (.int 0) d m = .ok () (m.set w (.lst [d, b, c])) := fun h => ev_setQ (j := 0) h (by simp)
  have y1 : ∀ {m : Mem} {a b c d : D}, m[w]? = some (.lst [a, b, c]) → setQ (.ref w) (.int 1) d m = .ok () (m.set w (.lst [a, d, c])) := fun h => ev_setQ (j := 1) h (by simp)
  have y2 : ∀ {m : Mem} {a b c d : D}, m[w]? = some (.lst [a, b, c]) → setQ (.ref w) (.int 2) d m = .ok () (m.set w (.lst [a, b, d])) := fun h => ev_setQ (j := 2) h (by simp)
  by_cases h0 : 0 < a
  · refine ⟨a.fmod k, [.int (a.fdiv k), .int b, .int c], ?_, ⟨_, _, _, Int.fdiv_nonneg ha (Int.le_of_lt hk), rfl⟩, Int.fmod_nonneg_of_pos a hk, Int.fmod_lt_of_pos a hk⟩
    simp only [bodyF, drawA, seqT, ifT, tstF, binF, varF, cF, fnF, consF, nilF, setT, retT, asgT, gSQ, bndS, bindO, boO, frcO_eq, setK_eq, List.map, List.length, List.replicate, List.append, List.cons_append, List.nil_append, nthK_z, nthK_s, ev_gt, ev_intD, decide_eq_true h0, if_true, x0 hw, y0 hw, ev_mod hk1, ev_fdiv hd, List.set]
  · obtain rfl : a = 0 := by omega
    have hz : decide ((0 : Int) < 0) = false := by decide
    let seed : Int := (b * 16807 + 50053 * (c + 1) + 13).fmod 2147483587
    have hs : (seed.fmod 40009 + 20011).natAbs < 18446744073709551616 := by
      have h1 := Int.fmod_nonneg_of_pos seed (b := 40009) (by decide)
      have h2 := Int.fmod_lt_of_pos seed (b := 40009) (by decide)
      omega
    refine ⟨((seed * (seed.fmod 40009 + 20011)).fdiv 3571).fmod k, [.int 0, .int seed, .int (c + 1)], ?_, ⟨_, _, _, Int.le_refl 0, rfl⟩, Int.fmod_nonneg_of_pos _ hk, Int.fmod_lt_of_pos _ hk⟩
    have m1 : ∀ {i : Int} {m : Mem}, mulQ (.int i) (.int 16807) m = .ok (.int (i * 16807)) m := ev_mulR (by decide)
    have m2 : ∀ {i : Int} {m : Mem}, mulQ (.int 50053) (.int i) m = .ok (.int (50053 * i)) m := ev_mulL (by decide)
    have m3 : ∀ {m : Mem}, mulQ (.int seed) (.int (seed.fmod 40009 + 20011)) m = .ok (.int (seed * (seed.fmod 40009 + 20011))) m := ev_mulR hs
    have d1 : ∀ {i : Int} {m : Mem}, fdivQ (.int i) (.int 3571) m = .ok (.int (i.fdiv 3571)) m := ev_fdiv (by decide +kernel)
    have e1 : ∀ {i : Int} {m : Mem}, modQ (.int i) (.int 2147483587) m = .ok (.int (i.fmod 2147483587)) m := ev_mod (by decide)
    have e2 : ∀ {i : Int} {m : Mem}, modQ (.int i) (.int 40009) m = .ok (.int (i.fmod 40009)) m := ev_mod (by decide)
    simp only [bodyF, drawA, seqT, ifT, tstF, binF, varF, cF, fnF, consF, nilF, setT, retT, nxT, asgT, gSQ, bndS, bindO, boO, frcO_eq, setK_eq, List.map, List.length, List.replicate, List.append, List.cons_append, List.nil_append, nthK_z, nthK_s, ev_gt, ev_intD, hz, Bool.false_eq_true, if_false, x0 hw, x2 hw, y2 hw,
      ev_add, x1 (set_get hlt), x2 (set_get hlt), y1 (set_get hlt), m1, m2, e1, List.set, List.set_set]
    have hseed : (b * 16807 + 50053 * (c + 1) + 13).fmod 2147483587 = seed := rfl
    simp only [hseed, e2, ev_add, m3, d1, ev_intD, ev_mod hk1]
/-- the loop over the first nine -/
theorem well_loop {s t o : D} {m : Mem} {n : Nat} {ds : List D} (hn : m[n]? = some (.lst ds)) : ∀ (r : List D) (i : Nat) (b : Int) (x : Option D), ds.drop i = r → (∀ d ∈ r, ∃ z : Int, d = .int z) →
    ∃ b' x', forD (gN 4) wellLoop (lstAt n) (r.length + 1) i [some s, some t, some o, some (.int b), x] m = .nx [some s, some t, some o, some (.int b'), x'] m
  | [], i, b, x, e, _ => by
    have h : ds[i]? = none := by
      rw [List.getElem?_eq_none_iff]
      have := congrArg List.length e
      rw [List.length_drop] at this
      simp at this; omega
    refine ⟨b, x, ?_⟩
    simp only [forD, lstAt, hn, h, List.length_nil]
  | d :: r, i, b, x, e, hz => by
    obtain ⟨z, rfl⟩ := hz d List.mem_cons_self
    have h : ds[i]? = some (.int z) := by
      have := congrArg (·[0]?) e
      simpa using this
    have h2 : ds.drop (i + 1) = r := by
      rw [← List.tail_drop, e]; rfl
    obtain ⟨b', x', ih⟩ := well_loop (s := s) (t := t) (o := o) hn r (i + 1) ((b * 40503 + z.fmod 2147483477 + 43).fmod 2147483587) (some (.int z)) h2 fun d hd => hz d (List.mem_cons_of_mem _ hd)
    refine ⟨b', x', ?_⟩
    have m1 : ∀ {i : Int} {m : Mem}, mulQ (.int i) (.int 40503) m = .ok (.int (i * 40503)) m := ev_mulR (by decide)
    have e1 : ∀ {i : Int} {m : Mem}, modQ (.int i) (.int 2147483587) m = .ok (.int (i.fmod 2147483587)) m := ev_mod (by decide)
    have e2 : ∀ {i : Int} {m : Mem}, modQ (.int i) (.int 2147483477) m = .ok (.int (i.fmod 2147483477)) m := ev_mod (by decide)
    have hstep : wellLoop [some s, some t, some o, some (.int b), some (.int z)] m = .nx [some s, some t, some o, some (.int ((b * 40503 + z.fmod 2147483477 + 43).fmod 2147483587)), some (.int z)] m := by
      simp only [wellLoop, seqT, binF, varF, cF, fnF, consF, nilF, setT, nxT, bndS, bindO, frcO_eq, setK_eq, nthK_z, nthK_s, ev_intD, ev_add, m1, e1, e2, List.set]
    rw [List.length_cons]
    have hl : lstAt n i m = some (some (.int z)) := by simp only [lstAt, hn, h]
    exact (fd_step hl gN_eq hstep).trans ih
theorem well_A {ns : List Int} {t : Nat} : ∃ g ds, bodyF 5 wellA [.fl (ns.map .int), .int (t : Int)] [] = .ok (.ref 1) [g, .lst ds] ∧ WellL ds ∧ noRs ds = true := by
  let xs : List D := ns.map .int
  let cut : List D := cutD xs none (some 9)
  have hcut : ∀ d ∈ cut, ∃ z : Int, d = .int z := fun d hd => by
    have h1 : d ∈ xs := List.mem_of_mem_drop (List.mem_of_mem_take hd)
    obtain ⟨z, _, e⟩ := List.mem_map.mp h1
    exact ⟨z, e.symm⟩
  have hown : ∃ own : Int, ∀ m : Mem, iteF (tstF (binF ltD (varF 1) (fnF lenD (consF (varF 0) nilF)))) (fnF Core.intD (consF (binF ixQ (varF 0) (varF 1)) nilF)) (cF (.int 0)) [some (.fl xs), some (.int (t : Int)), none, none, none] m = .ok (.int own) m := by
    by_cases h : t < ns.length
    · refine ⟨ns[t], fun m => ?_⟩
      have h1 : decide ((t : Int) < (xs.length : Int)) = true := decide_eq_true (by simp only [xs, List.length_map]; exact Int.ofNat_lt.mpr h)
      have h2 : ixQ (.fl xs) (.int (t : Int)) m = .ok (.int ns[t]) m := ev_ixF (j := t) (by simp [xs, h])
      simp only [iteF, tstF, binF, varF, cF, fnF, consF, nilF, bindO, boO, frcO_eq, nthK_z, nthK_s, ev_lt, ev_lenF, h1, if_true, h2, ev_intD]
    · refine ⟨0, fun m => ?_⟩
      have h1 : decide ((t : Int) < (xs.length : Int)) = false := decide_eq_false (by simp only [xs, List.length_map]; exact fun z => h (Int.ofNat_lt.mp z))
      simp only [iteF, tstF, binF, varF, cF, fnF, consF, nilF, bindO, boO, frcO_eq, nthK_z, nthK_s, ev_lt, ev_lenF, h1, Bool.false_eq_true, if_false]
  obtain ⟨own, hown⟩ := hown
  obtain ⟨b', x', hloop⟩ := well_loop (s := .fl xs) (t := .int (t : Int)) (o := .int own) (m := [.lst cut]) (n := 0) (ds := cut) rfl cut 0 (7 + 1299709 * (t : Int)) none rfl hcut
  let fin : Int := (b' * 48611 + own.fmod 2147483477 * 16807 + 17).fmod 2147483587
  let ab : Int := if own < 0 then -own else own
  have hab : 0 ≤ ab := by
    show 0 ≤ if own < 0 then -own else own
    split <;> omega
  refine ⟨.lst cut, [.int (if decide ((100000000000000000 : Int) ≤ ab) = true then ab else 0), .int fin, .int 0], ?_, ⟨_, _, _, ?_, rfl⟩, rfl⟩
  · have m1 : ∀ {i : Int} {m : Mem}, mulQ (.int 1299709) (.int i) m = .ok (.int (1299709 * i)) m := ev_mulL (by decide)
    have m2 : ∀ {i : Int} {m : Mem}, mulQ (.int i) (.int 48611) m = .ok (.int (i * 48611)) m := ev_mulR (by decide)
    have m3 : ∀ {i : Int} {m : Mem}, mulQ (.int i) (.int 16807) m = .ok (.int (i * 16807)) m := ev_mulR (by decide)
    have e1 : ∀ {i : Int} {m : Mem}, modQ (.int i) (.int 2147483587) m = .ok (.int (i.fmod 2147483587)) m := ev_mod (by decide)
    have e2 : ∀ {i : Int} {m : Mem}, modQ (.int i) (.int 2147483477) m = .ok (.int (i.fmod 2147483477)) m := ev_mod (by decide)
    have p1 : ∀ {m : Mem}, powQ (.int 10) (.int 17) m = .ok (.int 100000000000000000) m := by
      intro m
      rw [powQ_eq]
      show (if (0 : Int) ≤ 17 ∧ (17 : Int) ≤ 1000000 ∧ (10 : Int).natAbs < 18446744073709551616 then Out.ok (D.int (10 ^ (17 : Int).toNat)) m else .bad) = _
      rw [if_pos (by decide)]
      rfl
    have sl : slP (varF 0) none (some (cF (.int 9))) [some (.fl xs), some (.int (t : Int)), some (.int own), some (.int (7 + 1299709 * (t : Int))), none] [] = .ok (.ref 0) [.lst cut] := rfl
    have lp : forT (seqI (slP (varF 0) none (some (cF (.int 9))))) (gN 4) wellLoop [some (.fl xs), some (.int (t : Int)), some (.int own), some (.int (7 + 1299709 * (t : Int))), none] [] = .nx [some (.fl xs), some (.int (t : Int)), some (.int own), some (.int b'), x'] [.lst cut] := by
      unfold forT seqI
      rw [ev_bind sl]
      show forD (gN 4) wellLoop (lstAt 0) (cut.length + 1) 0 _ _ = _
      exact hloop
    have ho : setT 2 (iteF (tstF (binF ltD (varF 1) (fnF lenD (consF (varF 0) nilF)))) (fnF Core.intD (consF (binF ixQ (varF 0) (varF 1)) nilF)) (cF (.int 0))) [some (.fl xs), some (.int (t : Int)), none, none, none] [] = .nx [some (.fl xs), some (.int (t : Int)), some (.int own), none, none] [] := ev_set (hown [])
    have h3 : setT 3 (binF addQ (cF (.int 7)) (binF mulQ (cF (.int 1299709)) (varF 1))) [some (.fl xs), some (.int (t : Int)), some (.int own), none, none] [] = .nx [some (.fl xs), some (.int (t : Int)), some (.int own), some (.int (7 + 1299709 * (t : Int))), none] [] := by
      simp only [setT, bndS, binF, cF, varF, bindO, nthK_z, nthK_s, m1, ev_add, setK_eq, List.set]
    have main : wellA [some (.fl xs), some (.int (t : Int)), none, none, none] [] = .rt (.ref 1) [.lst cut, .lst [.int (if decide ((100000000000000000 : Int) ≤ ab) = true then ab else 0), .int fin, .int 0]] := by
      unfold wellA
      rw [ev_seq ho, ev_seq h3, ev_seq lp]
      have hfin : (b' * 48611 + own.fmod 2147483477 * 16807 + 17).fmod 2147483587 = fin := rfl
      have habs : (if own < 0 then -own else own) = ab := rfl
      simp only [seqT, tstF, binF, varF, cF, fnF, consF, nilF, setT, retT, nxT, lstF, bndS, bindO, boO, frcO_eq, setK_eq, nthK_z, nthK_s, ev_intD, ev_add, m2, m3, e1, e2, p1, List.set, ev_absD, ev_ge, hfin, habs, iteF]
      by_cases hb : decide ((100000000000000000 : Int) ≤ ab) = true
      · simp only [hb, if_true, habs]
        rfl
      · rw [Bool.not_eq_true] at hb
        simp only [hb, Bool.false_eq_true, if_false]
        rfl
    show (match wellA [some (.fl xs), some (.int (t : Int)), none, none, none] [] with
      | .nx _ m => Out.ok D.non m
      | .rt d m => .ok d m
      | .exc c fs m => .exc c fs m
      | _ => .bad) = _
    rw [main]
  · split
    · exact hab
    · exact Int.le_refl 0
end
end Core

set_option Elab.async false
set_option linter.all false
set_option maxRecDepth 100000
set_option maxHeartbeats 4000000
/-! Printed by gen.py. -/
namespace Gk
noncomputable section
open PySem PySem.Spec PyProof.Rows L2 Core
def top (i : Nat) : Stmt := PySem.Challenge.pw_kroneckerweber_k02_units_and_cyclotomic.main.body.getD i (.Pass ⟨0, 0, 0, 0⟩)
abbrev s__law_draw : Stmt := top 28
abbrev s__law_divisors : Stmt := top 31
abbrev s__law_over_step : Stmt := top 34
abbrev s__law_primes_of : Stmt := top 32
abbrev s__law_sign : Stmt := top 33
abbrev s__law_times_step : Stmt := top 35
abbrev s__law_circle : Stmt := top 36
abbrev s__law_times : Stmt := top 37
abbrev s__law_gcd : Stmt := top 29
abbrev s__law_units : Stmt := top 30
abbrev s_is_whole : Stmt := top 2
abbrev s_is_between : Stmt := top 3
abbrev s_is_order : Stmt := top 12
abbrev s_check_order : Stmt := top 22
abbrev s_trimmed : Stmt := top 5
abbrev s_scaled : Stmt := top 7
abbrev s_sum_by : Stmt := top 6
abbrev s_gap_by : Stmt := top 8
abbrev s_raised : Stmt := top 9
abbrev s_over_exactly : Stmt := top 15
abbrev s_primes_of : Stmt := top 14
abbrev s_stretched : Stmt := top 16
abbrev s_cyclotomic_row : Stmt := top 17
abbrev s_cyclotomic_polynomial : Stmt := top 25
abbrev s_all_units : Stmt := top 13
abbrev s_units : Stmt := top 24
abbrev s__law_right : Stmt := top 38
abbrev s__law_well : Stmt := top 27
abbrev s_law : Stmt := top 39
def t__law_draw : Tr := (seqT (ifT (tstF (binF gtD (binF ixQ (varF 0) (cF (.int 0))) (cF (.int 0)))) (seqT (setT 2 (binF modQ (fnF intD (consF (binF ixQ (varF 0) (cF (.int 0))) nilF)) (varF 1)))
  (seqT (asgT (binF fdivQ (binF ixQ (varF 0) (cF (.int 0))) (varF 1)) (gSQ (varF 0) (cF (.int 0))))
  (seqT (retT (varF 2))
  nxT))) nxT)
  (seqT (asgT (binF addQ (binF ixQ (varF 0) (cF (.int 2))) (cF (.int 1))) (gSQ (varF 0) (cF (.int 2))))
  (seqT (setT 3 (binF modQ (fnF intD (consF (binF addQ (binF addQ (binF mulQ (binF ixQ (varF 0) (cF (.int 1))) (cF (.int 16807))) (binF mulQ (cF (.int 50053)) (binF ixQ (varF 0) (cF (.int 2))))) (cF (.int 13))) nilF)) (cF (.int 2147483587))))
  (seqT (asgT (varF 3) (gSQ (varF 0) (cF (.int 1))))
  (seqT (retT (binF modQ (fnF intD (consF (binF fdivQ (binF mulQ (varF 3) (binF addQ (binF modQ (fnF intD (consF (varF 3) nilF)) (cF (.int 40009))) (cF (.int 20011)))) (cF (.int 3571))) nilF)) (varF 1)))
  nxT)))))
def F__law_draw (ds : List D) (m : Mem) : Out D := bodyF 4 t__law_draw ds m
def t__law_divisors : Tr := (seqT (retT (lcF (srcI rng2O (consF (cF (.int 1)) (consF (binF addQ (varF 0) (cF (.int 1))) nilF))) (gN 1) (tstF (binF eqD (binF modQ (fnF intD (consF (varF 0) nilF)) (varF 1)) (cF (.int 0)))) (varF 1) [1]))
  nxT)
def F__law_divisors (ds : List D) (m : Mem) : Out D := bodyF 2 t__law_divisors ds m
def t__law_over_step : Tr := (seqT (parT [2, 3] (consF (fnF lstD (consF (varF 0) nilF)) (consF (binF mulQ (lstF (consF (cF (.int 0)) nilF)) (binF subQ (fnF lenD (consF (varF 0) nilF)) (varF 1))) nilF)))
  (seqT (forT (srcI rng3O (consF (binF subQ (fnF lenD (consF (varF 0) nilF)) (cF (.int 1))) (consF (binF subQ (varF 1) (cF (.int 1))) (consF (unF negD (cF (.int 1))) nilF)))) (gN 4) (seqT (asgT (binF ixQ (varF 2) (varF 4)) (gSQ (varF 3) (binF subQ (varF 4) (varF 1))))
  (seqT (asgT (binF addQ (binF ixQ (varF 2) (binF subQ (varF 4) (varF 1))) (binF ixQ (varF 2) (varF 4))) (gSQ (varF 2) (binF subQ (varF 4) (varF 1))))
  nxT)))
  (seqT (retT (varF 3))
  nxT)))
def F__law_over_step (ds : List D) (m : Mem) : Out D := bodyF 5 t__law_over_step ds m
def t__law_primes_of : Tr := (seqT (retT (lcF (seqI (fnF (argF 1 F__law_divisors) (consF (varF 0) nilF))) (gN 1) (tstF (binF eqD (fnF lenD (consF (fnF (argF 1 F__law_divisors) (consF (varF 1) nilF)) nilF)) (cF (.int 2)))) (varF 1) [1]))
  nxT)
def F__law_primes_of (ds : List D) (m : Mem) : Out D := bodyF 2 t__law_primes_of ds m
def t__law_sign : Tr := (seqT (setT 1 (cF (.int 1)))
  (seqT (forT (seqI (fnF (argF 1 F__law_primes_of) (consF (varF 0) nilF))) (gN 2) (seqT (ifT (tstF (binF eqD (binF modQ (fnF intD (consF (varF 0) nilF)) (binF mulQ (varF 2) (varF 2))) (cF (.int 0)))) (seqT (retT (cF (.int 0)))
  nxT) nxT)
  (seqT (setT 1 (unF negD (varF 1)))
  nxT)))
  (seqT (retT (varF 1))
  nxT)))
def F__law_sign (ds : List D) (m : Mem) : Out D := bodyF 3 t__law_sign ds m
def t__law_times_step : Tr := (seqT (setT 2 (binF addQ (binF mulQ (lstF (consF (cF (.int 0)) nilF)) (varF 1)) (fnF lstD (consF (varF 0) nilF))))
  (seqT (forT (srcI rng1O (consF (fnF lenD (consF (varF 0) nilF)) nilF)) (gN 3) (seqT (asgT (binF subQ (binF ixQ (varF 2) (varF 3)) (binF ixQ (varF 0) (varF 3))) (gSQ (varF 2) (varF 3)))
  nxT))
  (seqT (retT (varF 2))
  nxT)))
def F__law_times_step (ds : List D) (m : Mem) : Out D := bodyF 4 t__law_times_step ds m
def t__law_circle : Tr := (seqT (setT 1 (lstF (consF (cF (.int 1)) nilF)))
  (seqT (forT (seqI (fnF (argF 1 F__law_divisors) (consF (varF 0) nilF))) (gN 2) (seqT (ifT (tstF (binF eqD (fnF (argF 1 F__law_sign) (consF (varF 2) nilF)) (cF (.int 1)))) (seqT (setT 1 (fnF (argF 2 F__law_times_step) (consF (varF 1) (consF (binF fdivQ (varF 0) (varF 2)) nilF))))
  nxT) nxT)
  nxT))
  (seqT (forT (seqI (fnF (argF 1 F__law_divisors) (consF (varF 0) nilF))) (gN 2) (seqT (ifT (tstF (binF eqD (fnF (argF 1 F__law_sign) (consF (varF 2) nilF)) (unF negD (cF (.int 1))))) (seqT (setT 1 (fnF (argF 2 F__law_over_step) (consF (varF 1) (consF (binF fdivQ (varF 0) (varF 2)) nilF))))
  nxT) nxT)
  nxT))
  (seqT (retT (varF 1))
  nxT))))
def F__law_circle (ds : List D) (m : Mem) : Out D := bodyF 3 t__law_circle ds m
def t__law_times : Tr := (seqT (setT 2 (binF mulQ (lstF (consF (cF (.int 0)) nilF)) (binF subQ (binF addQ (fnF lenD (consF (varF 0) nilF)) (fnF lenD (consF (varF 1) nilF))) (cF (.int 1)))))
  (seqT (forT (srcI rng1O (consF (fnF lenD (consF (varF 0) nilF)) nilF)) (gN 3) (seqT (forT (srcI rng1O (consF (fnF lenD (consF (varF 1) nilF)) nilF)) (gN 4) (seqT (asgT (binF addQ (binF ixQ (varF 2) (binF addQ (varF 3) (varF 4))) (binF mulQ (binF ixQ (varF 0) (varF 3)) (binF ixQ (varF 1) (varF 4)))) (gSQ (varF 2) (binF addQ (varF 3) (varF 4))))
  nxT))
  nxT))
  (seqT (retT (varF 2))
  nxT)))
def F__law_times (ds : List D) (m : Mem) : Out D := bodyF 5 t__law_times ds m
def t__law_gcd : Tr := (seqT (whileT 100000 (tstF (binF neD (varF 1) (cF (.int 0)))) (seqT (parT [0, 1] (consF (varF 1) (consF (binF modQ (fnF intD (consF (varF 0) nilF)) (varF 1)) nilF)))
  nxT))
  (seqT (retT (fnF absD (consF (varF 0) nilF)))
  nxT))
def F__law_gcd (ds : List D) (m : Mem) : Out D := bodyF 2 t__law_gcd ds m
def t__law_units : Tr := (seqT (retT (lcF (srcI rng2O (consF (cF (.int 1)) (consF (binF addQ (varF 0) (cF (.int 1))) nilF))) (gN 1) (tstF (binF eqD (fnF (argF 2 F__law_gcd) (consF (varF 1) (consF (varF 0) nilF))) (cF (.int 1)))) (varF 1) [1]))
  nxT)
def F__law_units (ds : List D) (m : Mem) : Out D := bodyF 2 t__law_units ds m
def t_is_whole : Tr := (seqT (retT (andF (isiF .int (varF 0)) (unF notO (isiF .bool (varF 0)))))
  nxT)
def F_is_whole (ds : List D) (m : Mem) : Out D := bodyF 1 t_is_whole ds m
def t_is_between : Tr := (seqT (retT (andF (fnF (argF 1 F_is_whole) (consF (varF 0) nilF)) (chainF leD leD (varF 1) (varF 0) (varF 2))))
  nxT)
def F_is_between (ds : List D) (m : Mem) : Out D := bodyF 3 t_is_between ds m
def t_is_order : Tr := (seqT (retT (fnF (argF 3 F_is_between) (consF (varF 0) (consF (cF (.int 1)) (consF (cF (.int 60)) nilF)))))
  nxT)
def F_is_order (ds : List D) (m : Mem) : Out D := bodyF 1 t_is_order ds m
def t_check_order : Tr := (seqT (ifT (notB (truF (fnF (argF 1 F_is_order) (consF (varF 0) nilF)))) (seqT neverT
  nxT) nxT)
  nxT)
def F_check_order (ds : List D) (m : Mem) : Out D := bodyF 1 t_check_order ds m
def t_trimmed : Tr := (seqT (setT 1 (fnF lenD (consF (varF 0) nilF)))
  (seqT (whileT 100000 (andB (tstF (binF gtD (varF 1) (cF (.int 0)))) (tstF (binF eqD (binF ixQ (varF 0) (binF subQ (varF 1) (cF (.int 1)))) (cF (.int 0))))) (seqT (setT 1 (binF subQ (varF 1) (cF (.int 1))))
  nxT))
  (seqT (retT (fnF tupD (consF (slP (varF 0) none (some (varF 1))) nilF)))
  nxT)))
def F_trimmed (ds : List D) (m : Mem) : Out D := bodyF 2 t_trimmed ds m
def t_scaled : Tr := (seqT (retT (fnF (argF 1 F_trimmed) (consF (lcF (seqI (varF 0)) (gN 2) yesB (binF mulQ (varF 1) (varF 2)) [2]) nilF)))
  nxT)
def F_scaled (ds : List D) (m : Mem) : Out D := bodyF 3 t_scaled ds m
def t_sum_by : Tr := (seqT (setT 2 (fnF maxD (consF (fnF lenD (consF (varF 0) nilF)) (consF (fnF lenD (consF (varF 1) nilF)) nilF))))
  (seqT (parT [3, 4] (consF (binF addQ (varF 0) (binF mulQ (tupF (consF (cF (.int 0)) nilF)) (binF subQ (varF 2) (fnF lenD (consF (varF 0) nilF))))) (consF (binF addQ (varF 1) (binF mulQ (tupF (consF (cF (.int 0)) nilF)) (binF subQ (varF 2) (fnF lenD (consF (varF 1) nilF))))) nilF)))
  (seqT (retT (fnF (argF 1 F_trimmed) (consF (lcF (srcI zipO (consF (varF 3) (consF (varF 4) nilF))) (gT 2 (gcons (gN 5) (gcons (gN 6) gnil))) yesB (binF addQ (varF 5) (varF 6)) [5, 6]) nilF)))
  nxT)))
def F_sum_by (ds : List D) (m : Mem) : Out D := bodyF 7 t_sum_by ds m
def t_gap_by : Tr := (seqT (retT (fnF (argF 2 F_sum_by) (consF (varF 0) (consF (fnF (argF 2 F_scaled) (consF (varF 1) (consF (unF negD (cF (.int 1))) nilF))) nilF))))
  nxT)
def F_gap_by (ds : List D) (m : Mem) : Out D := bodyF 2 t_gap_by ds m
def t_raised : Tr := (seqT (retT (iteF (tstF (binF neD (varF 0) (tupF nilF))) (binF addQ (binF mulQ (tupF (consF (cF (.int 0)) nilF)) (varF 1)) (varF 0)) (tupF nilF)))
  nxT)
def F_raised (ds : List D) (m : Mem) : Out D := bodyF 2 t_raised ds m
def t_over_exactly : Tr := (seqT (setT 2 (binF mulQ (lstF (consF (cF (.int 0)) nilF)) (binF addQ (binF subQ (fnF lenD (consF (varF 0) nilF)) (fnF lenD (consF (varF 1) nilF))) (cF (.int 1)))))
  (seqT (whileT 100000 (tstF (binF geD (fnF lenD (consF (varF 0) nilF)) (fnF lenD (consF (varF 1) nilF)))) (seqT (setT 3 (binF subQ (fnF lenD (consF (varF 0) nilF)) (fnF lenD (consF (varF 1) nilF))))
  (seqT (asgT (binF ixQ (varF 0) (unF negD (cF (.int 1)))) (gSQ (varF 2) (varF 3)))
  (seqT (setT 0 (fnF (argF 2 F_gap_by) (consF (varF 0) (consF (fnF (argF 2 F_raised) (consF (fnF (argF 2 F_scaled) (consF (varF 1) (consF (binF ixQ (varF 0) (unF negD (cF (.int 1)))) nilF))) (consF (varF 3) nilF))) nilF))))
  nxT))))
  (seqT (retT (fnF tupD (consF (varF 2) nilF)))
  nxT)))
def F_over_exactly (ds : List D) (m : Mem) : Out D := bodyF 4 t_over_exactly ds m
def t_primes_of : Tr := (seqT (parT [1, 2] (consF (lstF nilF) (consF (cF (.int 2)) nilF)))
  (seqT (whileT 100000 (tstF (binF leD (binF mulQ (varF 2) (varF 2)) (varF 0))) (seqT (ifT (tstF (binF eqD (binF modQ (varF 0) (varF 2)) (cF (.int 0)))) (seqT (exprT (lmF appO (varF 1) (consF (varF 2) nilF)))
  (seqT (whileT 100000 (tstF (binF eqD (binF modQ (varF 0) (varF 2)) (cF (.int 0)))) (seqT (setT 0 (binF fdivQ (varF 0) (varF 2)))
  nxT))
  nxT)) nxT)
  (seqT (setT 2 (binF addQ (varF 2) (cF (.int 1))))
  nxT)))
  (seqT (retT (iteF (tstF (binF gtD (varF 0) (cF (.int 1)))) (binF addQ (varF 1) (lstF (consF (varF 0) nilF))) (varF 1)))
  nxT)))
def F_primes_of (ds : List D) (m : Mem) : Out D := bodyF 3 t_primes_of ds m
def t_stretched : Tr := (seqT (setT 2 (binF mulQ (lstF (consF (cF (.int 0)) nilF)) (binF addQ (binF mulQ (binF subQ (fnF lenD (consF (varF 0) nilF)) (cF (.int 1))) (varF 1)) (cF (.int 1)))))
  (seqT (forT (srcI enumO (consF (varF 0) nilF)) (gT 2 (gcons (gN 3) (gcons (gN 4) gnil))) (seqT (asgT (varF 4) (gSQ (varF 2) (binF mulQ (varF 3) (varF 1))))
  nxT))
  (seqT (retT (fnF tupD (consF (varF 2) nilF)))
  nxT)))
def F_stretched (ds : List D) (m : Mem) : Out D := bodyF 5 t_stretched ds m
def t_cyclotomic_row : Tr := (seqT (parT [1, 2] (consF (tupF (consF (unF negD (cF (.int 1))) (consF (cF (.int 1)) nilF))) (consF (varF 0) nilF)))
  (seqT (forT (seqI (fnF (argF 1 F_primes_of) (consF (varF 0) nilF))) (gN 3) (seqT (parT [1, 2] (consF (fnF (argF 2 F_over_exactly) (consF (fnF (argF 2 F_stretched) (consF (varF 1) (consF (varF 3) nilF))) (consF (varF 1) nilF))) (consF (binF fdivQ (varF 2) (varF 3)) nilF)))
  nxT))
  (seqT (retT (fnF (argF 2 F_stretched) (consF (varF 1) (consF (varF 2) nilF))))
  nxT)))
def F_cyclotomic_row (ds : List D) (m : Mem) : Out D := bodyF 4 t_cyclotomic_row ds m
def t_cyclotomic_polynomial : Tr := (seqT (exprT (fnF (argF 1 F_check_order) (consF (varF 0) nilF)))
  (seqT (retT (fnF (argF 1 F_cyclotomic_row) (consF (varF 0) nilF)))
  nxT))
def F_cyclotomic_polynomial (ds : List D) (m : Mem) : Out D := bodyF 1 t_cyclotomic_polynomial ds m
def t_all_units : Tr := (seqT (retT (fnF tupD (consF (lcF (srcI rng2O (consF (cF (.int 1)) (consF (binF addQ (varF 0) (cF (.int 1))) nilF))) (gN 1) (tstF (binF eqD (fnF gcdD (consF (varF 1) (consF (varF 0) nilF))) (cF (.int 1)))) (varF 1) [1]) nilF)))
  nxT)
def F_all_units (ds : List D) (m : Mem) : Out D := bodyF 2 t_all_units ds m
def t_units : Tr := (seqT (exprT (fnF (argF 1 F_check_order) (consF (varF 0) nilF)))
  (seqT (retT (fnF (argF 1 F_all_units) (consF (varF 0) nilF)))
  nxT))
def F_units (ds : List D) (m : Mem) : Out D := bodyF 1 t_units ds m
def t__law_right : Tr := (seqT (setT 2 (tupF (consF (fnF tupD (consF (fnF (argF 1 F__law_units) (consF (varF 0) nilF)) nilF)) (consF (fnF tupD (consF (fnF (argF 1 F__law_circle) (consF (varF 0) nilF)) nilF)) nilF))))
  (seqT (ifT (tstF (binF neD (fnF reprD (consF (tupF (consF (fnF (argF 1 F_units) (consF (varF 0) nilF)) (consF (fnF (argF 1 F_cyclotomic_polynomial) (consF (varF 0) nilF)) nilF))) nilF)) (fnF reprD (consF (varF 2) nilF)))) (seqT (retT (cF (.bl false)))
  nxT) nxT)
  (seqT (ifT (tstF (binF neD (fnF reprD (consF (tupF (consF (kwF 0 1 [0] F_units nilF (consF (varF 1) nilF)) (consF (kwF 0 1 [0] F_cyclotomic_polynomial nilF (consF (varF 1) nilF)) nilF))) nilF)) (fnF reprD (consF (tupF (consF (fnF tupD (consF (fnF (argF 1 F__law_units) (consF (varF 1) nilF)) nilF)) (consF (fnF tupD (consF (fnF (argF 1 F__law_circle) (consF (varF 1) nilF)) nilF)) nilF))) nilF)))) (seqT (retT (cF (.bl false)))
  nxT) nxT)
  (seqT (setT 3 (lstF (consF (cF (.int 1)) nilF)))
  (seqT (forT (seqI (fnF (argF 1 F__law_divisors) (consF (varF 0) nilF))) (gN 4) (seqT (setT 5 (fnF (argF 1 F_cyclotomic_polynomial) (consF (varF 4) nilF)))
  (seqT (ifT (orB (notB (truF (isiF .tuple (varF 5)))) (tstF (binF neD (fnF lenD (consF (varF 5) nilF)) (binF addQ (fnF lenD (consF (fnF (argF 1 F__law_units) (consF (varF 4) nilF)) nilF)) (cF (.int 1)))))) (seqT (retT (cF (.bl false)))
  nxT) nxT)
  (seqT (setT 3 (fnF (argF 2 F__law_times) (consF (varF 3) (consF (varF 5) nilF))))
  nxT))))
  (seqT (ifT (tstF (binF neD (varF 3) (binF addQ (binF addQ (lstF (consF (unF negD (cF (.int 1))) nilF)) (binF mulQ (lstF (consF (cF (.int 0)) nilF)) (binF subQ (varF 0) (cF (.int 1))))) (lstF (consF (cF (.int 1)) nilF))))) (seqT (retT (cF (.bl false)))
  nxT) nxT)
  (seqT (retT (binF eqD (fnF reprD (consF (tupF (consF (kwF 0 1 [0] F_units nilF (consF (varF 0) nilF)) (consF (kwF 0 1 [0] F_cyclotomic_polynomial nilF (consF (varF 0) nilF)) nilF))) nilF)) (fnF reprD (consF (varF 2) nilF))))
  nxT)))))))
def F__law_right (ds : List D) (m : Mem) : Out D := bodyF 6 t__law_right ds m
def t__law_well : Tr := (seqT (setT 2 (iteF (tstF (binF ltD (varF 1) (fnF lenD (consF (varF 0) nilF)))) (fnF intD (consF (binF ixQ (varF 0) (varF 1)) nilF)) (cF (.int 0))))
  (seqT (setT 3 (binF addQ (cF (.int 7)) (binF mulQ (cF (.int 1299709)) (varF 1))))
  (seqT (forT (seqI (slP (varF 0) none (some (cF (.int 9))))) (gN 4) (seqT (setT 3 (binF modQ (fnF intD (consF (binF addQ (binF addQ (binF mulQ (varF 3) (cF (.int 40503))) (binF modQ (fnF intD (consF (varF 4) nilF)) (cF (.int 2147483477)))) (cF (.int 43))) nilF)) (cF (.int 2147483587))))
  nxT))
  (seqT (setT 3 (binF modQ (fnF intD (consF (binF addQ (binF addQ (binF mulQ (varF 3) (cF (.int 48611))) (binF mulQ (binF modQ (fnF intD (consF (varF 2) nilF)) (cF (.int 2147483477))) (cF (.int 16807)))) (cF (.int 17))) nilF)) (cF (.int 2147483587))))
  (seqT (retT (lstF (consF (iteF (tstF (binF geD (fnF absD (consF (varF 2) nilF)) (binF powQ (cF (.int 10)) (cF (.int 17))))) (fnF absD (consF (varF 2) nilF)) (cF (.int 0))) (consF (varF 3) (consF (cF (.int 0)) nilF)))))
  nxT)))))
def F__law_well (ds : List D) (m : Mem) : Out D := bodyF 5 t__law_well ds m
def t_law : Tr := (seqT (forT (srcI rng1O (consF (fnF maxD (consF (cF (.int 1)) (consF (fnF minD (consF (fnF lenD (consF (varF 0) nilF)) (consF (cF (.int 4)) nilF))) nilF))) nilF)) (gN 1) (seqT (setT 2 (fnF (argF 2 F__law_well) (consF (varF 0) (consF (varF 1) nilF))))
  (seqT (setT 3 (iteF (tstF (binF ltD (varF 1) (fnF lenD (consF (varF 0) nilF)))) (binF addQ (binF modQ (fnF intD (consF (binF ixQ (varF 0) (varF 1)) nilF)) (cF (.int 60))) (cF (.int 1))) (cF (.int 60))))
  (seqT (setT 4 (fnF (argF 2 F__law_draw) (consF (varF 2) (consF (cF (.int 60)) nilF))))
  (seqT (ifT (notB (truF (fnF (argF 2 F__law_right) (consF (varF 3) (consF (binF addQ (cF (.int 1)) (binF modQ (fnF intD (consF (binF addQ (fnF (argF 2 F__law_draw) (consF (varF 2) (consF (cF (.int 60)) nilF))) (varF 4)) nilF)) (cF (.int 60)))) nilF))))) (seqT (retT (cF (.bl false)))
  nxT) nxT)
  nxT)))))
  (seqT (retT (cF (.bl true)))
  nxT))
def F_law (ds : List D) (m : Mem) : Out D := bodyF 5 t_law ds m
/-- what the top has made -/
structure Tx (g : Gc) (mg : Str → Option Value) where
  z_abs : mg "abs" = none
  z_bool : mg "bool" = none
  z_enumerate : mg "enumerate" = none
  z_int : mg "int" = none
  z_isinstance : mg "isinstance" = none
  z_len : mg "len" = none
  z_list : mg "list" = none
  z_max : mg "max" = none
  z_min : mg "min" = none
  z_range : mg "range" = none
  z_repr : mg "repr" = none
  z_tuple : mg "tuple" = none
  z_zip : mg "zip" = none
  i_MOST_ORDER : ∃ t, mg "MOST_ORDER" = some (.int 60 t)
  q_gcd : mg "gcd" = some (.builtin "math.gcd")
  a__law_draw : Addr
  d__law_draw : FuncData
  F__law_draw : FunD g.K "_law_draw" "_law_draw" (defArgs s__law_draw) (defBody s__law_draw) (defScope s__law_draw) [] [] a__law_draw d__law_draw
  m__law_draw : mg "_law_draw" = some (.ref a__law_draw)
  a__law_divisors : Addr
  d__law_divisors : FuncData
  F__law_divisors : FunD g.K "_law_divisors" "_law_divisors" (defArgs s__law_divisors) (defBody s__law_divisors) (defScope s__law_divisors) [] [] a__law_divisors d__law_divisors
  m__law_divisors : mg "_law_divisors" = some (.ref a__law_divisors)
  a__law_over_step : Addr
  d__law_over_step : FuncData
  F__law_over_step : FunD g.K "_law_over_step" "_law_over_step" (defArgs s__law_over_step) (defBody s__law_over_step) (defScope s__law_over_step) [] [] a__law_over_step d__law_over_step
  m__law_over_step : mg "_law_over_step" = some (.ref a__law_over_step)
  a__law_primes_of : Addr
  d__law_primes_of : FuncData
  F__law_primes_of : FunD g.K "_law_primes_of" "_law_primes_of" (defArgs s__law_primes_of) (defBody s__law_primes_of) (defScope s__law_primes_of) [] [] a__law_primes_of d__law_primes_of
  m__law_primes_of : mg "_law_primes_of" = some (.ref a__law_primes_of)
  a__law_sign : Addr
  d__law_sign : FuncData
  F__law_sign : FunD g.K "_law_sign" "_law_sign" (defArgs s__law_sign) (defBody s__law_sign) (defScope s__law_sign) [] [] a__law_sign d__law_sign
  m__law_sign : mg "_law_sign" = some (.ref a__law_sign)
  a__law_times_step : Addr
  d__law_times_step : FuncData
  F__law_times_step : FunD g.K "_law_times_step" "_law_times_step" (defArgs s__law_times_step) (defBody s__law_times_step) (defScope s__law_times_step) [] [] a__law_times_step d__law_times_step
  m__law_times_step : mg "_law_times_step" = some (.ref a__law_times_step)
  a__law_circle : Addr
  d__law_circle : FuncData
  F__law_circle : FunD g.K "_law_circle" "_law_circle" (defArgs s__law_circle) (defBody s__law_circle) (defScope s__law_circle) [] [] a__law_circle d__law_circle
  m__law_circle : mg "_law_circle" = some (.ref a__law_circle)
  a__law_times : Addr
  d__law_times : FuncData
  F__law_times : FunD g.K "_law_times" "_law_times" (defArgs s__law_times) (defBody s__law_times) (defScope s__law_times) [] [] a__law_times d__law_times
  m__law_times : mg "_law_times" = some (.ref a__law_times)
  a__law_gcd : Addr
  d__law_gcd : FuncData
  F__law_gcd : FunD g.K "_law_gcd" "_law_gcd" (defArgs s__law_gcd) (defBody s__law_gcd) (defScope s__law_gcd) [] [] a__law_gcd d__law_gcd
  m__law_gcd : mg "_law_gcd" = some (.ref a__law_gcd)
  a__law_units : Addr
  d__law_units : FuncData
  F__law_units : FunD g.K "_law_units" "_law_units" (defArgs s__law_units) (defBody s__law_units) (defScope s__law_units) [] [] a__law_units d__law_units
  m__law_units : mg "_law_units" = some (.ref a__law_units)
  a_is_whole : Addr
  d_is_whole : FuncData
  F_is_whole : FunD g.K "is_whole" "is_whole" (defArgs s_is_whole) (defBody s_is_whole) (defScope s_is_whole) [] [] a_is_whole d_is_whole
  m_is_whole : mg "is_whole" = some (.ref a_is_whole)
  a_is_between : Addr
  d_is_between : FuncData
  F_is_between : FunD g.K "is_between" "is_between" (defArgs s_is_between) (defBody s_is_between) (defScope s_is_between) [] [] a_is_between d_is_between
  m_is_between : mg "is_between" = some (.ref a_is_between)
  a_is_order : Addr
  d_is_order : FuncData
  F_is_order : FunD g.K "is_order" "is_order" (defArgs s_is_order) (defBody s_is_order) (defScope s_is_order) [] [] a_is_order d_is_order
  m_is_order : mg "is_order" = some (.ref a_is_order)
  a_check_order : Addr
  d_check_order : FuncData
  F_check_order : FunD g.K "check_order" "check_order" (defArgs s_check_order) (defBody s_check_order) (defScope s_check_order) [] [] a_check_order d_check_order
  m_check_order : mg "check_order" = some (.ref a_check_order)
  a_trimmed : Addr
  d_trimmed : FuncData
  F_trimmed : FunD g.K "trimmed" "trimmed" (defArgs s_trimmed) (defBody s_trimmed) (defScope s_trimmed) [] [] a_trimmed d_trimmed
  m_trimmed : mg "trimmed" = some (.ref a_trimmed)
  a_scaled : Addr
  d_scaled : FuncData
  F_scaled : FunD g.K "scaled" "scaled" (defArgs s_scaled) (defBody s_scaled) (defScope s_scaled) [] [] a_scaled d_scaled
  m_scaled : mg "scaled" = some (.ref a_scaled)
  a_sum_by : Addr
  d_sum_by : FuncData
  F_sum_by : FunD g.K "sum_by" "sum_by" (defArgs s_sum_by) (defBody s_sum_by) (defScope s_sum_by) [] [] a_sum_by d_sum_by
  m_sum_by : mg "sum_by" = some (.ref a_sum_by)
  a_gap_by : Addr
  d_gap_by : FuncData
  F_gap_by : FunD g.K "gap_by" "gap_by" (defArgs s_gap_by) (defBody s_gap_by) (defScope s_gap_by) [] [] a_gap_by d_gap_by
  m_gap_by : mg "gap_by" = some (.ref a_gap_by)
  a_raised : Addr
  d_raised : FuncData
  F_raised : FunD g.K "raised" "raised" (defArgs s_raised) (defBody s_raised) (defScope s_raised) [] [] a_raised d_raised
  m_raised : mg "raised" = some (.ref a_raised)
  a_over_exactly : Addr
  d_over_exactly : FuncData
  F_over_exactly : FunD g.K "over_exactly" "over_exactly" (defArgs s_over_exactly) (defBody s_over_exactly) (defScope s_over_exactly) [] [] a_over_exactly d_over_exactly
  m_over_exactly : mg "over_exactly" = some (.ref a_over_exactly)
  a_primes_of : Addr
  d_primes_of : FuncData
  F_primes_of : FunD g.K "primes_of" "primes_of" (defArgs s_primes_of) (defBody s_primes_of) (defScope s_primes_of) [] [] a_primes_of d_primes_of
  m_primes_of : mg "primes_of" = some (.ref a_primes_of)
  a_stretched : Addr
  d_stretched : FuncData
  F_stretched : FunD g.K "stretched" "stretched" (defArgs s_stretched) (defBody s_stretched) (defScope s_stretched) [] [] a_stretched d_stretched
  m_stretched : mg "stretched" = some (.ref a_stretched)
  a_cyclotomic_row : Addr
  d_cyclotomic_row : FuncData
  F_cyclotomic_row : FunD g.K "cyclotomic_row" "cyclotomic_row" (defArgs s_cyclotomic_row) (defBody s_cyclotomic_row) (defScope s_cyclotomic_row) [] [] a_cyclotomic_row d_cyclotomic_row
  m_cyclotomic_row : mg "cyclotomic_row" = some (.ref a_cyclotomic_row)
  a_cyclotomic_polynomial : Addr
  d_cyclotomic_polynomial : FuncData
  F_cyclotomic_polynomial : FunD g.K "cyclotomic_polynomial" "cyclotomic_polynomial" (defArgs s_cyclotomic_polynomial) (defBody s_cyclotomic_polynomial) (defScope s_cyclotomic_polynomial) [] [] a_cyclotomic_polynomial d_cyclotomic_polynomial
  m_cyclotomic_polynomial : mg "cyclotomic_polynomial" = some (.ref a_cyclotomic_polynomial)
  a_all_units : Addr
  d_all_units : FuncData
  F_all_units : FunD g.K "all_units" "all_units" (defArgs s_all_units) (defBody s_all_units) (defScope s_all_units) [] [] a_all_units d_all_units
  m_all_units : mg "all_units" = some (.ref a_all_units)
  a_units : Addr
  d_units : FuncData
  F_units : FunD g.K "units" "units" (defArgs s_units) (defBody s_units) (defScope s_units) [] [] a_units d_units
  m_units : mg "units" = some (.ref a_units)
  a__law_right : Addr
  d__law_right : FuncData
  F__law_right : FunD g.K "_law_right" "_law_right" (defArgs s__law_right) (defBody s__law_right) (defScope s__law_right) [] [] a__law_right d__law_right
  m__law_right : mg "_law_right" = some (.ref a__law_right)
  a__law_well : Addr
  d__law_well : FuncData
  F__law_well : FunD g.K "_law_well" "_law_well" (defArgs s__law_well) (defBody s__law_well) (defScope s__law_well) [] [] a__law_well d__law_well
  m__law_well : mg "_law_well" = some (.ref a__law_well)
  a_law : Addr
  d_law : FuncData
  F_law : FunD g.K "law" "law" (defArgs s_law) (defBody s_law) (defScope s_law) [] [] a_law d_law
  m_law : mg "law" = some (.ref a_law)
section
variable {P : Program} {w : World} {g : Gc} {mg : Str → Option Value} {base : Heap}
theorem b__law_circle (T : Tx g mg) : Bnd g.K T.d__law_circle ["n"] [] 1 [] := bnd_of T.F__law_circle rfl (by decide) fun _ _ _ _ _ _ us ws h1 h2 => match us, ws, h1, h2 with | [_], [], _, _ => rfl
theorem b__law_divisors (T : Tx g mg) : Bnd g.K T.d__law_divisors ["n"] [] 1 [] := bnd_of T.F__law_divisors rfl (by decide) fun _ _ _ _ _ _ us ws h1 h2 => match us, ws, h1, h2 with | [_], [], _, _ => rfl
theorem b__law_draw (T : Tx g mg) : Bnd g.K T.d__law_draw ["well", "many"] [] 2 [] := bnd_of T.F__law_draw rfl (by decide) fun _ _ _ _ _ _ us ws h1 h2 => match us, ws, h1, h2 with | [_, _], [], _, _ => rfl
theorem b__law_gcd (T : Tx g mg) : Bnd g.K T.d__law_gcd ["one", "two"] [] 2 [] := bnd_of T.F__law_gcd rfl (by decide) fun _ _ _ _ _ _ us ws h1 h2 => match us, ws, h1, h2 with | [_, _], [], _, _ => rfl
theorem b__law_over_step (T : Tx g mg) : Bnd g.K T.d__law_over_step ["row", "step"] [] 2 [] := bnd_of T.F__law_over_step rfl (by decide) fun _ _ _ _ _ _ us ws h1 h2 => match us, ws, h1, h2 with | [_, _], [], _, _ => rfl
theorem b__law_primes_of (T : Tx g mg) : Bnd g.K T.d__law_primes_of ["n"] [] 1 [] := bnd_of T.F__law_primes_of rfl (by decide) fun _ _ _ _ _ _ us ws h1 h2 => match us, ws, h1, h2 with | [_], [], _, _ => rfl
theorem b__law_right (T : Tx g mg) : Bnd g.K T.d__law_right ["n", "other"] [] 2 [] := bnd_of T.F__law_right rfl (by decide) fun _ _ _ _ _ _ us ws h1 h2 => match us, ws, h1, h2 with | [_, _], [], _, _ => rfl
theorem b__law_sign (T : Tx g mg) : Bnd g.K T.d__law_sign ["n"] [] 1 [] := bnd_of T.F__law_sign rfl (by decide) fun _ _ _ _ _ _ us ws h1 h2 => match us, ws, h1, h2 with | [_], [], _, _ => rfl
theorem b__law_times (T : Tx g mg) : Bnd g.K T.d__law_times ["one", "two"] [] 2 [] := bnd_of T.F__law_times rfl (by decide) fun _ _ _ _ _ _ us ws h1 h2 => match us, ws, h1, h2 with | [_, _], [], _, _ => rfl
theorem b__law_times_step (T : Tx g mg) : Bnd g.K T.d__law_times_step ["row", "step"] [] 2 [] := bnd_of T.F__law_times_step rfl (by decide) fun _ _ _ _ _ _ us ws h1 h2 => match us, ws, h1, h2 with | [_, _], [], _, _ => rfl
theorem b__law_units (T : Tx g mg) : Bnd g.K T.d__law_units ["n"] [] 1 [] := bnd_of T.F__law_units rfl (by decide) fun _ _ _ _ _ _ us ws h1 h2 => match us, ws, h1, h2 with | [_], [], _, _ => rfl
theorem b__law_well (T : Tx g mg) : Bnd g.K T.d__law_well ["script", "turn"] [] 2 [] := bnd_of T.F__law_well rfl (by decide) fun _ _ _ _ _ _ us ws h1 h2 => match us, ws, h1, h2 with | [_, _], [], _, _ => rfl
theorem b_all_units (T : Tx g mg) : Bnd g.K T.d_all_units ["order"] [] 1 [] := bnd_of T.F_all_units rfl (by decide) fun _ _ _ _ _ _ us ws h1 h2 => match us, ws, h1, h2 with | [_], [], _, _ => rfl
theorem b_check_order (T : Tx g mg) : Bnd g.K T.d_check_order ["value"] [] 1 [] := bnd_of T.F_check_order rfl (by decide) fun _ _ _ _ _ _ us ws h1 h2 => match us, ws, h1, h2 with | [_], [], _, _ => rfl
theorem b_cyclotomic_polynomial (T : Tx g mg) : Bnd g.K T.d_cyclotomic_polynomial ["order"] [] 1 [] := bnd_of T.F_cyclotomic_polynomial rfl (by decide) fun _ _ _ _ _ _ us ws h1 h2 => match us, ws, h1, h2 with | [_], [], _, _ => rfl
theorem b_cyclotomic_polynomial_0_order (T : Tx g mg) : Bnd g.K T.d_cyclotomic_polynomial ["order"] ["order"] 0 [0] := bnd_of T.F_cyclotomic_polynomial rfl (by decide) fun _ _ _ _ _ _ us ws h1 h2 => match us, ws, h1, h2 with | [], [_], _, _ => rfl
theorem b_cyclotomic_row (T : Tx g mg) : Bnd g.K T.d_cyclotomic_row ["order"] [] 1 [] := bnd_of T.F_cyclotomic_row rfl (by decide) fun _ _ _ _ _ _ us ws h1 h2 => match us, ws, h1, h2 with | [_], [], _, _ => rfl
theorem b_gap_by (T : Tx g mg) : Bnd g.K T.d_gap_by ["row", "other"] [] 2 [] := bnd_of T.F_gap_by rfl (by decide) fun _ _ _ _ _ _ us ws h1 h2 => match us, ws, h1, h2 with | [_, _], [], _, _ => rfl
theorem b_is_between (T : Tx g mg) : Bnd g.K T.d_is_between ["value", "low", "high"] [] 3 [] := bnd_of T.F_is_between rfl (by decide) fun _ _ _ _ _ _ us ws h1 h2 => match us, ws, h1, h2 with | [_, _, _], [], _, _ => rfl
theorem b_is_order (T : Tx g mg) : Bnd g.K T.d_is_order ["value"] [] 1 [] := bnd_of T.F_is_order rfl (by decide) fun _ _ _ _ _ _ us ws h1 h2 => match us, ws, h1, h2 with | [_], [], _, _ => rfl
theorem b_is_whole (T : Tx g mg) : Bnd g.K T.d_is_whole ["value"] [] 1 [] := bnd_of T.F_is_whole rfl (by decide) fun _ _ _ _ _ _ us ws h1 h2 => match us, ws, h1, h2 with | [_], [], _, _ => rfl
theorem b_over_exactly (T : Tx g mg) : Bnd g.K T.d_over_exactly ["row", "other"] [] 2 [] := bnd_of T.F_over_exactly rfl (by decide) fun _ _ _ _ _ _ us ws h1 h2 => match us, ws, h1, h2 with | [_, _], [], _, _ => rfl
theorem b_primes_of (T : Tx g mg) : Bnd g.K T.d_primes_of ["whole"] [] 1 [] := bnd_of T.F_primes_of rfl (by decide) fun _ _ _ _ _ _ us ws h1 h2 => match us, ws, h1, h2 with | [_], [], _, _ => rfl
theorem b_raised (T : Tx g mg) : Bnd g.K T.d_raised ["row", "many"] [] 2 [] := bnd_of T.F_raised rfl (by decide) fun _ _ _ _ _ _ us ws h1 h2 => match us, ws, h1, h2 with | [_, _], [], _, _ => rfl
theorem b_scaled (T : Tx g mg) : Bnd g.K T.d_scaled ["row", "number"] [] 2 [] := bnd_of T.F_scaled rfl (by decide) fun _ _ _ _ _ _ us ws h1 h2 => match us, ws, h1, h2 with | [_, _], [], _, _ => rfl
theorem b_stretched (T : Tx g mg) : Bnd g.K T.d_stretched ["row", "many"] [] 2 [] := bnd_of T.F_stretched rfl (by decide) fun _ _ _ _ _ _ us ws h1 h2 => match us, ws, h1, h2 with | [_, _], [], _, _ => rfl
theorem b_sum_by (T : Tx g mg) : Bnd g.K T.d_sum_by ["row", "other"] [] 2 [] := bnd_of T.F_sum_by rfl (by decide) fun _ _ _ _ _ _ us ws h1 h2 => match us, ws, h1, h2 with | [_, _], [], _, _ => rfl
theorem b_trimmed (T : Tx g mg) : Bnd g.K T.d_trimmed ["some"] [] 1 [] := bnd_of T.F_trimmed rfl (by decide) fun _ _ _ _ _ _ us ws h1 h2 => match us, ws, h1, h2 with | [_], [], _, _ => rfl
theorem b_units (T : Tx g mg) : Bnd g.K T.d_units ["order"] [] 1 [] := bnd_of T.F_units rfl (by decide) fun _ _ _ _ _ _ us ws h1 h2 => match us, ws, h1, h2 with | [_], [], _, _ => rfl
theorem b_units_0_order (T : Tx g mg) : Bnd g.K T.d_units ["order"] ["order"] 0 [0] := bnd_of T.F_units rfl (by decide) fun _ _ _ _ _ _ us ws h1 h2 => match us, ws, h1, h2 with | [], [_], _, _ => rfl
theorem c__law_draw : FnScope ["well", "many", "digit", "seed"] ["well", "many"] (defScope s__law_draw) := ⟨rfl, rfl, rfl, by decide +kernel, rfl, by decide +kernel, by decide +kernel⟩
theorem f__law_draw (T : Tx g mg) : FnG P w g.K mg base CX0 (0 + 1) T.a__law_draw T.d__law_draw ["well", "many"] (spF g 2 F__law_draw) := by
  have S := c__law_draw
  have h0 := T.F__law_draw
  have h1 := @fgF P w g.K mg base CX0 0 _ _ _ _ g _ _ _ _ _ _ _ t__law_draw h0 S rfl
  apply h1
  intro cdv A outer s H E gu cc
  exact (s_cons (s_if (y_cmp o_gt (q_ix cc (x_var 0) x_int) x_int) (s_cons (s_set cc 2 (x_bin q_mod (x_callT (c_int) (by rfl) T.z_int (by decide +kernel) (a_cons (q_ix cc (x_var 0) x_int) a_nil)) (x_var 1)))
    (s_cons (s_asg (x_bin q_fdiv (q_ix cc (x_var 0) x_int) (x_var 1)) (q_sub_tg (x_var 0) x_int))
    (s_cons (s_ret (x_var 2))
    s_nil))) s_nil)
    (s_cons (s_asg (x_bin (q_add cc) (q_ix cc (x_var 0) x_int) x_int) (q_sub_tg (x_var 0) x_int))
    (s_cons (s_set cc 3 (x_bin q_mod (x_callT (c_int) (by rfl) T.z_int (by decide +kernel) (a_cons (x_bin (q_add cc) (x_bin (q_add cc) (x_bin (q_mul cc) (q_ix cc (x_var 0) x_int) x_int) (x_bin (q_mul cc) x_int (q_ix cc (x_var 0) x_int))) x_int) a_nil)) x_int))
    (s_cons (s_asg (x_var 3) (q_sub_tg (x_var 0) x_int))
    (s_cons (s_ret (x_bin q_mod (x_callT (c_int) (by rfl) T.z_int (by decide +kernel) (a_cons (x_bin q_fdiv (x_bin (q_mul cc) (x_var 3) (x_bin (q_add cc) (x_bin q_mod (x_callT (c_int) (by rfl) T.z_int (by decide +kernel) (a_cons (x_var 3) a_nil)) x_int) x_int)) x_int) a_nil)) (x_var 1)))
    s_nil)))))
theorem c__law_divisors : FnScope ["n", "d"] ["n"] (defScope s__law_divisors) := ⟨rfl, rfl, rfl, by decide +kernel, rfl, by decide +kernel, by decide +kernel⟩
theorem f__law_divisors (T : Tx g mg) : FnG P w g.K mg base CX0 (0 + 1) T.a__law_divisors T.d__law_divisors ["n"] (spF g 1 F__law_divisors) := by
  have S := c__law_divisors
  have h0 := T.F__law_divisors
  have h1 := @fgF P w g.K mg base CX0 0 _ _ _ _ g _ _ _ _ _ _ _ t__law_divisors h0 S rfl
  apply h1
  intro cdv A outer s H E gu cc
  exact (s_cons (s_ret (x_lc cc S.nd (i_rng2 (by rfl) T.z_range (a_cons x_int (a_cons (x_bin (q_add cc) (x_var 0) x_int) a_nil))) (blkOk_by (own := [("d", 1)]) (by kernel_rfl)) (own_name 1 (by decide)) (fun _ _ _ _ _ => (pg_name (i := 1) S.nd (by rfl) (Or.inl rfl))) (fun _ _ _ _ _ => (if_one (y_cmp (o_eq (Cok.blk cc)) (x_bin q_mod (x_callT (c_int) (by rfl) T.z_int (by decide +kernel) (a_cons (x_var 0) a_nil)) (x_var 1)) x_int))) (fun _ _ _ _ _ => (x_var 1))))
    s_nil)
theorem c__law_over_step : FnScope ["row", "step", "left", "found", "at"] ["row", "step"] (defScope s__law_over_step) := ⟨rfl, rfl, rfl, by decide +kernel, rfl, by decide +kernel, by decide +kernel⟩
theorem f__law_over_step (T : Tx g mg) : FnG P w g.K mg base CX0 (0 + 1) T.a__law_over_step T.d__law_over_step ["row", "step"] (spF g 2 F__law_over_step) := by
  have S := c__law_over_step
  have h0 := T.F__law_over_step
  have h1 := @fgF P w g.K mg base CX0 0 _ _ _ _ g _ _ _ _ _ _ _ t__law_over_step h0 S rfl
  apply h1
  intro cdv A outer s H E gu cc
  exact (s_cons (s_par2 cc 2 3 (a_cons (x_callT (c_lst cc) (by rfl) T.z_list (by decide +kernel) (a_cons (x_var 0) a_nil)) (a_cons (x_bin (q_mul cc) (x_lst (a_cons x_int a_nil)) (x_bin q_sub (x_callB (c_len cc) (by rfl) T.z_len (by decide +kernel) (a_cons (x_var 0) a_nil)) (x_var 1))) a_nil)) (by rfl))
    (s_cons (s_for cc PassesOwn.never (i_rng3 (by rfl) T.z_range (a_cons (x_bin q_sub (x_callB (c_len cc) (by rfl) T.z_len (by decide +kernel) (a_cons (x_var 0) a_nil)) x_int) (a_cons (x_bin q_sub (x_var 1) x_int) (a_cons (x_neg x_int) a_nil)))) (g_name cc 4) (s_cons (s_asg (q_ix cc (x_var 2) (x_var 4)) (q_sub_tg (x_var 3) (x_bin q_sub (x_var 4) (x_var 1))))
    (s_cons (s_asg (x_bin (q_add cc) (q_ix cc (x_var 2) (x_bin q_sub (x_var 4) (x_var 1))) (q_ix cc (x_var 2) (x_var 4))) (q_sub_tg (x_var 2) (x_bin q_sub (x_var 4) (x_var 1))))
    s_nil)))
    (s_cons (s_ret (x_var 3))
    s_nil)))
theorem c__law_primes_of : FnScope ["n", "p"] ["n"] (defScope s__law_primes_of) := ⟨rfl, rfl, rfl, by decide +kernel, rfl, by decide +kernel, by decide +kernel⟩
theorem f__law_primes_of (T : Tx g mg) : FnG P w g.K mg base CX0 (1 + 1) T.a__law_primes_of T.d__law_primes_of ["n"] (spF g 1 F__law_primes_of) := by
  have S := c__law_primes_of
  have h0 := T.F__law_primes_of
  have h1 := @fgF P w g.K mg base CX0 1 _ _ _ _ g _ _ _ _ _ _ _ t__law_primes_of h0 S rfl
  apply h1
  intro cdv A outer s H E gu cc
  exact (s_cons (s_ret (x_lc cc S.nd (i_seq cc (x_call (Ek := L2.E0) (f__law_divisors T) gu (cc.room.mono (by decide)) (by rfl) T.m__law_divisors T.F__law_divisors.kp (b__law_divisors T) pass0 (a_cons (x_var 0) a_nil))) (blkOk_by (own := [("p", 1)]) (by kernel_rfl)) (own_name 1 (by decide)) (fun _ _ _ _ _ => (pg_name (i := 1) S.nd (by rfl) (Or.inl rfl))) (fun _ _ _ _ _ => (if_one (y_cmp (o_eq (Cok.blk cc)) (x_callB (c_len (Cok.blk cc)) (by rfl) T.z_len (by decide +kernel) (a_cons (x_call (Ek := L2.E0) (f__law_divisors T) gu ((Cok.blk cc).room.mono (by decide)) (by rfl) T.m__law_divisors T.F__law_divisors.kp (b__law_divisors T) pass0 (a_cons (x_var 1) a_nil)) a_nil)) x_int))) (fun _ _ _ _ _ => (x_var 1))))
    s_nil)
theorem c__law_sign : FnScope ["n", "sign", "p"] ["n"] (defScope s__law_sign) := ⟨rfl, rfl, rfl, by decide +kernel, rfl, by decide +kernel, by decide +kernel⟩
theorem f__law_sign (T : Tx g mg) : FnG P w g.K mg base CX0 (2 + 1) T.a__law_sign T.d__law_sign ["n"] (spF g 1 F__law_sign) := by
  have S := c__law_sign
  have h0 := T.F__law_sign
  have h1 := @fgF P w g.K mg base CX0 2 _ _ _ _ g _ _ _ _ _ _ _ t__law_sign h0 S rfl
  apply h1
  intro cdv A outer s H E gu cc
  exact (s_cons (s_set cc 1 x_int)
    (s_cons (s_for cc PassesOwn.never (i_seq cc (x_call (Ek := L2.E0) (f__law_primes_of T) gu (cc.room.mono (by decide)) (by rfl) T.m__law_primes_of T.F__law_primes_of.kp (b__law_primes_of T) pass0 (a_cons (x_var 0) a_nil))) (g_name cc 2) (s_cons (s_if (y_cmp (o_eq cc) (x_bin q_mod (x_callT (c_int) (by rfl) T.z_int (by decide +kernel) (a_cons (x_var 0) a_nil)) (x_bin (q_mul cc) (x_var 2) (x_var 2))) x_int) (s_cons (s_ret x_int)
    s_nil) s_nil)
    (s_cons (s_set cc 1 (x_neg (x_var 1)))
    s_nil)))
    (s_cons (s_ret (x_var 1))
    s_nil)))
theorem c__law_times_step : FnScope ["row", "step", "found", "at"] ["row", "step"] (defScope s__law_times_step) := ⟨rfl, rfl, rfl, by decide +kernel, rfl, by decide +kernel, by decide +kernel⟩
theorem f__law_times_step (T : Tx g mg) : FnG P w g.K mg base CX0 (0 + 1) T.a__law_times_step T.d__law_times_step ["row", "step"] (spF g 2 F__law_times_step) := by
  have S := c__law_times_step
  have h0 := T.F__law_times_step
  have h1 := @fgF P w g.K mg base CX0 0 _ _ _ _ g _ _ _ _ _ _ _ t__law_times_step h0 S rfl
  apply h1
  intro cdv A outer s H E gu cc
  exact (s_cons (s_set cc 2 (x_bin (q_add cc) (x_bin (q_mul cc) (x_lst (a_cons x_int a_nil)) (x_var 1)) (x_callT (c_lst cc) (by rfl) T.z_list (by decide +kernel) (a_cons (x_var 0) a_nil))))
    (s_cons (s_for cc PassesOwn.never (i_rng1 (by rfl) T.z_range (a_cons (x_callB (c_len cc) (by rfl) T.z_len (by decide +kernel) (a_cons (x_var 0) a_nil)) a_nil)) (g_name cc 3) (s_cons (s_asg (x_bin q_sub (q_ix cc (x_var 2) (x_var 3)) (q_ix cc (x_var 0) (x_var 3))) (q_sub_tg (x_var 2) (x_var 3)))
    s_nil))
    (s_cons (s_ret (x_var 2))
    s_nil)))
theorem c__law_circle : FnScope ["n", "found", "d"] ["n"] (defScope s__law_circle) := ⟨rfl, rfl, rfl, by decide +kernel, rfl, by decide +kernel, by decide +kernel⟩
theorem f__law_circle (T : Tx g mg) : FnG P w g.K mg base CX0 (3 + 1) T.a__law_circle T.d__law_circle ["n"] (spF g 1 F__law_circle) := by
  have S := c__law_circle
  have h0 := T.F__law_circle
  have h1 := @fgF P w g.K mg base CX0 3 _ _ _ _ g _ _ _ _ _ _ _ t__law_circle h0 S rfl
  apply h1
  intro cdv A outer s H E gu cc
  exact (s_cons (s_set cc 1 (x_lst (a_cons x_int a_nil)))
    (s_cons (s_for cc PassesOwn.never (i_seq cc (x_call (Ek := L2.E0) (f__law_divisors T) gu (cc.room.mono (by decide)) (by rfl) T.m__law_divisors T.F__law_divisors.kp (b__law_divisors T) pass0 (a_cons (x_var 0) a_nil))) (g_name cc 2) (s_cons (s_if (y_cmp (o_eq cc) (x_call (Ek := L2.E0) (f__law_sign T) gu (cc.room.mono (by decide)) (by rfl) T.m__law_sign T.F__law_sign.kp (b__law_sign T) pass0 (a_cons (x_var 2) a_nil)) x_int) (s_cons (s_set cc 1 (x_call (Ek := L2.E0) (f__law_times_step T) gu (cc.room.mono (by decide)) (by rfl) T.m__law_times_step T.F__law_times_step.kp (b__law_times_step T) pass0 (a_cons (x_var 1) (a_cons (x_bin q_fdiv (x_var 0) (x_var 2)) a_nil))))
    s_nil) s_nil)
    s_nil))
    (s_cons (s_for cc PassesOwn.never (i_seq cc (x_call (Ek := L2.E0) (f__law_divisors T) gu (cc.room.mono (by decide)) (by rfl) T.m__law_divisors T.F__law_divisors.kp (b__law_divisors T) pass0 (a_cons (x_var 0) a_nil))) (g_name cc 2) (s_cons (s_if (y_cmp (o_eq cc) (x_call (Ek := L2.E0) (f__law_sign T) gu (cc.room.mono (by decide)) (by rfl) T.m__law_sign T.F__law_sign.kp (b__law_sign T) pass0 (a_cons (x_var 2) a_nil)) (x_neg x_int)) (s_cons (s_set cc 1 (x_call (Ek := L2.E0) (f__law_over_step T) gu (cc.room.mono (by decide)) (by rfl) T.m__law_over_step T.F__law_over_step.kp (b__law_over_step T) pass0 (a_cons (x_var 1) (a_cons (x_bin q_fdiv (x_var 0) (x_var 2)) a_nil))))
    s_nil) s_nil)
    s_nil))
    (s_cons (s_ret (x_var 1))
    s_nil))))
theorem c__law_times : FnScope ["one", "two", "found", "i", "j"] ["one", "two"] (defScope s__law_times) := ⟨rfl, rfl, rfl, by decide +kernel, rfl, by decide +kernel, by decide +kernel⟩
theorem f__law_times (T : Tx g mg) : FnG P w g.K mg base CX0 (0 + 1) T.a__law_times T.d__law_times ["one", "two"] (spF g 2 F__law_times) := by
  have S := c__law_times
  have h0 := T.F__law_times
  have h1 := @fgF P w g.K mg base CX0 0 _ _ _ _ g _ _ _ _ _ _ _ t__law_times h0 S rfl
  apply h1
  intro cdv A outer s H E gu cc
  exact (s_cons (s_set cc 2 (x_bin (q_mul cc) (x_lst (a_cons x_int a_nil)) (x_bin q_sub (x_bin (q_add cc) (x_callB (c_len cc) (by rfl) T.z_len (by decide +kernel) (a_cons (x_var 0) a_nil)) (x_callB (c_len cc) (by rfl) T.z_len (by decide +kernel) (a_cons (x_var 1) a_nil))) x_int)))
    (s_cons (s_for cc PassesOwn.never (i_rng1 (by rfl) T.z_range (a_cons (x_callB (c_len cc) (by rfl) T.z_len (by decide +kernel) (a_cons (x_var 0) a_nil)) a_nil)) (g_name cc 3) (s_cons (s_for cc PassesOwn.never (i_rng1 (by rfl) T.z_range (a_cons (x_callB (c_len cc) (by rfl) T.z_len (by decide +kernel) (a_cons (x_var 1) a_nil)) a_nil)) (g_name cc 4) (s_cons (s_asg (x_bin (q_add cc) (q_ix cc (x_var 2) (x_bin (q_add cc) (x_var 3) (x_var 4))) (x_bin (q_mul cc) (q_ix cc (x_var 0) (x_var 3)) (q_ix cc (x_var 1) (x_var 4)))) (q_sub_tg (x_var 2) (x_bin (q_add cc) (x_var 3) (x_var 4))))
    s_nil))
    s_nil))
    (s_cons (s_ret (x_var 2))
    s_nil)))
theorem c__law_gcd : FnScope ["one", "two"] ["one", "two"] (defScope s__law_gcd) := ⟨rfl, rfl, rfl, by decide +kernel, rfl, by decide +kernel, by decide +kernel⟩
theorem f__law_gcd (T : Tx g mg) : FnG P w g.K mg base CX0 (0 + 1) T.a__law_gcd T.d__law_gcd ["one", "two"] (spF g 2 F__law_gcd) := by
  have S := c__law_gcd
  have h0 := T.F__law_gcd
  have h1 := @fgF P w g.K mg base CX0 0 _ _ _ _ g _ _ _ _ _ _ _ t__law_gcd h0 S rfl
  apply h1
  intro cdv A outer s H E gu cc
  exact (s_cons (s_while 100000 PassesOwn.never (y_cmp (o_ne cc) (x_var 1) x_int) (s_cons (s_par2 cc 0 1 (a_cons (x_var 1) (a_cons (x_bin q_mod (x_callT (c_int) (by rfl) T.z_int (by decide +kernel) (a_cons (x_var 0) a_nil)) (x_var 1)) a_nil)) (by rfl))
    s_nil))
    (s_cons (s_ret (x_callB (c_abs) (by rfl) T.z_abs (by decide +kernel) (a_cons (x_var 0) a_nil)))
    s_nil))
theorem c__law_units : FnScope ["n", "a"] ["n"] (defScope s__law_units) := ⟨rfl, rfl, rfl, by decide +kernel, rfl, by decide +kernel, by decide +kernel⟩
theorem f__law_units (T : Tx g mg) : FnG P w g.K mg base CX0 (1 + 1) T.a__law_units T.d__law_units ["n"] (spF g 1 F__law_units) := by
  have S := c__law_units
  have h0 := T.F__law_units
  have h1 := @fgF P w g.K mg base CX0 1 _ _ _ _ g _ _ _ _ _ _ _ t__law_units h0 S rfl
  apply h1
  intro cdv A outer s H E gu cc
  exact (s_cons (s_ret (x_lc cc S.nd (i_rng2 (by rfl) T.z_range (a_cons x_int (a_cons (x_bin (q_add cc) (x_var 0) x_int) a_nil))) (blkOk_by (own := [("a", 1)]) (by kernel_rfl)) (own_name 1 (by decide)) (fun _ _ _ _ _ => (pg_name (i := 1) S.nd (by rfl) (Or.inl rfl))) (fun _ _ _ _ _ => (if_one (y_cmp (o_eq (Cok.blk cc)) (x_call (Ek := L2.E0) (f__law_gcd T) gu ((Cok.blk cc).room.mono (by decide)) (by rfl) T.m__law_gcd T.F__law_gcd.kp (b__law_gcd T) pass0 (a_cons (x_var 1) (a_cons (x_var 0) a_nil))) x_int))) (fun _ _ _ _ _ => (x_var 1))))
    s_nil)
theorem c_is_whole : FnScope ["value"] ["value"] (defScope s_is_whole) := ⟨rfl, rfl, rfl, by decide +kernel, rfl, by decide +kernel, by decide +kernel⟩
theorem f_is_whole (T : Tx g mg) : FnG P w g.K mg base CX0 (0 + 1) T.a_is_whole T.d_is_whole ["value"] (spF g 1 F_is_whole) := by
  have S := c_is_whole
  have h0 := T.F_is_whole
  have h1 := @fgF P w g.K mg base CX0 0 _ _ _ _ g _ _ _ _ _ _ _ t_is_whole h0 S rfl
  apply h1
  intro cdv A outer s H E gu cc
  exact (s_cons (s_ret (x_and (x_isi cc .int (by rfl) T.z_isinstance (by rfl) T.z_int (by decide +kernel) (x_var 0)) (x_one (x_not (x_isi cc .bool (by rfl) T.z_isinstance (by rfl) T.z_bool (by decide +kernel) (x_var 0))))))
    s_nil)
theorem c_is_between : FnScope ["value", "low", "high"] ["value", "low", "high"] (defScope s_is_between) := ⟨rfl, rfl, rfl, by decide +kernel, rfl, by decide +kernel, by decide +kernel⟩
theorem f_is_between (T : Tx g mg) : FnG P w g.K mg base CX0 (1 + 1) T.a_is_between T.d_is_between ["value", "low", "high"] (spF g 3 F_is_between) := by
  have S := c_is_between
  have h0 := T.F_is_between
  have h1 := @fgF P w g.K mg base CX0 1 _ _ _ _ g _ _ _ _ _ _ _ t_is_between h0 S rfl
  apply h1
  intro cdv A outer s H E gu cc
  exact (s_cons (s_ret (x_and (x_call (Ek := L2.E0) (f_is_whole T) gu (cc.room.mono (by decide)) (by rfl) T.m_is_whole T.F_is_whole.kp (b_is_whole T) pass0 (a_cons (x_var 0) a_nil)) (x_one (x_chain o_le o_le (x_var 1) (x_var 0) (x_var 2)))))
    s_nil)
theorem c_is_order : FnScope ["value"] ["value"] (defScope s_is_order) := ⟨rfl, rfl, rfl, by decide +kernel, rfl, by decide +kernel, by decide +kernel⟩
theorem f_is_order (T : Tx g mg) : FnG P w g.K mg base CX0 (2 + 1) T.a_is_order T.d_is_order ["value"] (spF g 1 F_is_order) := by
  have S := c_is_order
  have h0 := T.F_is_order
  have h1 := @fgF P w g.K mg base CX0 2 _ _ _ _ g _ _ _ _ _ _ _ t_is_order h0 S rfl
  apply h1
  intro cdv A outer s H E gu cc
  exact (s_cons (s_ret (x_call (Ek := L2.E0) (f_is_between T) gu (cc.room.mono (by decide)) (by rfl) T.m_is_between T.F_is_between.kp (b_is_between T) pass0 (a_cons (x_var 0) (a_cons x_int (a_cons (x_globI (by rfl) T.i_MOST_ORDER) a_nil)))))
    s_nil)
theorem c_check_order : FnScope ["value"] ["value"] (defScope s_check_order) := ⟨rfl, rfl, rfl, by decide +kernel, rfl, by decide +kernel, by decide +kernel⟩
theorem f_check_order (T : Tx g mg) : FnG P w g.K mg base CX0 (3 + 1) T.a_check_order T.d_check_order ["value"] (spF g 1 F_check_order) := by
  have S := c_check_order
  have h0 := T.F_check_order
  have h1 := @fgF P w g.K mg base CX0 3 _ _ _ _ g _ _ _ _ _ _ _ t_check_order h0 S rfl
  apply h1
  intro cdv A outer s H E gu cc
  exact (s_cons (s_if (y_not (y_tru cc (x_call (Ek := L2.E0) (f_is_order T) gu (cc.room.mono (by decide)) (by rfl) T.m_is_order T.F_is_order.kp (b_is_order T) pass0 (a_cons (x_var 0) a_nil)))) (s_cons s_never
    s_nil) s_nil)
    s_nil)
theorem c_trimmed : FnScope ["some", "last"] ["some"] (defScope s_trimmed) := ⟨rfl, rfl, rfl, by decide +kernel, rfl, by decide +kernel, by decide +kernel⟩
theorem f_trimmed (T : Tx g mg) : FnG P w g.K mg base CX0 (0 + 1) T.a_trimmed T.d_trimmed ["some"] (spF g 1 F_trimmed) := by
  have S := c_trimmed
  have h0 := T.F_trimmed
  have h1 := @fgF P w g.K mg base CX0 0 _ _ _ _ g _ _ _ _ _ _ _ t_trimmed h0 S rfl
  apply h1
  intro cdv A outer s H E gu cc
  exact (s_cons (s_set cc 1 (x_callB (c_len cc) (by rfl) T.z_len (by decide +kernel) (a_cons (x_var 0) a_nil)))
    (s_cons (s_while 100000 PassesOwn.never (y_w (w_and (y_cmp o_gt (x_var 1) x_int) (w_and1 (y_cmp (o_eq cc) (q_ix cc (x_var 0) (x_bin q_sub (x_var 1) x_int)) x_int)))) (s_cons (s_set cc 1 (x_bin q_sub (x_var 1) x_int))
    s_nil))
    (s_cons (s_ret (x_callT (c_tup cc) (by rfl) T.z_tuple (by decide +kernel) (a_cons (x_slice cc (x_var 0) part_none (part_some (x_var 1))) a_nil)))
    s_nil)))
theorem c_scaled : FnScope ["row", "number", "each"] ["row", "number"] (defScope s_scaled) := ⟨rfl, rfl, rfl, by decide +kernel, rfl, by decide +kernel, by decide +kernel⟩
theorem f_scaled (T : Tx g mg) : FnG P w g.K mg base CX0 (1 + 1) T.a_scaled T.d_scaled ["row", "number"] (spF g 2 F_scaled) := by
  have S := c_scaled
  have h0 := T.F_scaled
  have h1 := @fgF P w g.K mg base CX0 1 _ _ _ _ g _ _ _ _ _ _ _ t_scaled h0 S rfl
  apply h1
  intro cdv A outer s H E gu cc
  exact (s_cons (s_ret (x_call (Ek := L2.E0) (f_trimmed T) gu (cc.room.mono (by decide)) (by rfl) T.m_trimmed T.F_trimmed.kp (b_trimmed T) pass0 (a_cons (x_lc cc S.nd (i_seq cc (x_var 0)) (blkOk_by (own := [("each", 2)]) (by kernel_rfl)) (own_name 2 (by decide)) (fun _ _ _ _ _ => (pg_name (i := 2) S.nd (by rfl) (Or.inl rfl))) (fun _ _ _ _ _ => if_none) (fun _ _ _ _ _ => (x_bin (q_mul (Cok.blk cc)) (x_var 1) (x_var 2)))) a_nil)))
    s_nil)
theorem c_sum_by : FnScope ["row", "other", "size", "one", "two", "here", "there"] ["row", "other"] (defScope s_sum_by) := ⟨rfl, rfl, rfl, by decide +kernel, rfl, by decide +kernel, by decide +kernel⟩
theorem f_sum_by (T : Tx g mg) : FnG P w g.K mg base CX0 (1 + 1) T.a_sum_by T.d_sum_by ["row", "other"] (spF g 2 F_sum_by) := by
  have S := c_sum_by
  have h0 := T.F_sum_by
  have h1 := @fgF P w g.K mg base CX0 1 _ _ _ _ g _ _ _ _ _ _ _ t_sum_by h0 S rfl
  apply h1
  intro cdv A outer s H E gu cc
  exact (s_cons (s_set cc 2 (x_callB (c_max cc) (by rfl) T.z_max (by decide +kernel) (a_cons (x_callB (c_len cc) (by rfl) T.z_len (by decide +kernel) (a_cons (x_var 0) a_nil)) (a_cons (x_callB (c_len cc) (by rfl) T.z_len (by decide +kernel) (a_cons (x_var 1) a_nil)) a_nil))))
    (s_cons (s_par2 cc 3 4 (a_cons (x_bin (q_add cc) (x_var 0) (x_bin (q_mul cc) (x_tup (a_cons x_int a_nil)) (x_bin q_sub (x_var 2) (x_callB (c_len cc) (by rfl) T.z_len (by decide +kernel) (a_cons (x_var 0) a_nil))))) (a_cons (x_bin (q_add cc) (x_var 1) (x_bin (q_mul cc) (x_tup (a_cons x_int a_nil)) (x_bin q_sub (x_var 2) (x_callB (c_len cc) (by rfl) T.z_len (by decide +kernel) (a_cons (x_var 1) a_nil))))) a_nil)) (by rfl))
    (s_cons (s_ret (x_call (Ek := L2.E0) (f_trimmed T) gu (cc.room.mono (by decide)) (by rfl) T.m_trimmed T.F_trimmed.kp (b_trimmed T) pass0 (a_cons (x_lc cc S.nd (i_zip cc (by rfl) T.z_zip (a_cons (x_var 3) (a_cons (x_var 4) a_nil))) (blkOk_by (own := [("here", 5), ("there", 6)]) (by kernel_rfl)) (own_two cc.K 5 6 (by decide) (by decide)) (fun _ _ _ _ _ => (pg_tup cc.calm (pgs_cons (pg_name (i := 5) S.nd (by rfl) (Or.inl rfl)) (pgs_cons (pg_name (i := 6) S.nd (by rfl) (Or.inl rfl)) pgs_nil)))) (fun _ _ _ _ _ => if_none) (fun _ _ _ _ _ => (x_bin (q_add (Cok.blk cc)) (x_var 5) (x_var 6)))) a_nil)))
    s_nil)))
theorem c_gap_by : FnScope ["row", "other"] ["row", "other"] (defScope s_gap_by) := ⟨rfl, rfl, rfl, by decide +kernel, rfl, by decide +kernel, by decide +kernel⟩
theorem f_gap_by (T : Tx g mg) : FnG P w g.K mg base CX0 (2 + 1) T.a_gap_by T.d_gap_by ["row", "other"] (spF g 2 F_gap_by) := by
  have S := c_gap_by
  have h0 := T.F_gap_by
  have h1 := @fgF P w g.K mg base CX0 2 _ _ _ _ g _ _ _ _ _ _ _ t_gap_by h0 S rfl
  apply h1
  intro cdv A outer s H E gu cc
  exact (s_cons (s_ret (x_call (Ek := L2.E0) (f_sum_by T) gu (cc.room.mono (by decide)) (by rfl) T.m_sum_by T.F_sum_by.kp (b_sum_by T) pass0 (a_cons (x_var 0) (a_cons (x_call (Ek := L2.E0) (f_scaled T) gu (cc.room.mono (by decide)) (by rfl) T.m_scaled T.F_scaled.kp (b_scaled T) pass0 (a_cons (x_var 1) (a_cons (x_neg x_int) a_nil))) a_nil))))
    s_nil)
theorem c_raised : FnScope ["row", "many"] ["row", "many"] (defScope s_raised) := ⟨rfl, rfl, rfl, by decide +kernel, rfl, by decide +kernel, by decide +kernel⟩
theorem f_raised (T : Tx g mg) : FnG P w g.K mg base CX0 (0 + 1) T.a_raised T.d_raised ["row", "many"] (spF g 2 F_raised) := by
  have S := c_raised
  have h0 := T.F_raised
  have h1 := @fgF P w g.K mg base CX0 0 _ _ _ _ g _ _ _ _ _ _ _ t_raised h0 S rfl
  apply h1
  intro cdv A outer s H E gu cc
  exact (s_cons (s_ret (x_ite (y_cmp (o_ne cc) (x_var 0) (x_tup a_nil)) (x_bin (q_add cc) (x_bin (q_mul cc) (x_tup (a_cons x_int a_nil)) (x_var 1)) (x_var 0)) (x_tup a_nil)))
    s_nil)
theorem c_over_exactly : FnScope ["row", "other", "found", "at"] ["row", "other"] (defScope s_over_exactly) := ⟨rfl, rfl, rfl, by decide +kernel, rfl, by decide +kernel, by decide +kernel⟩
theorem f_over_exactly (T : Tx g mg) : FnG P w g.K mg base CX0 (3 + 1) T.a_over_exactly T.d_over_exactly ["row", "other"] (spF g 2 F_over_exactly) := by
  have S := c_over_exactly
  have h0 := T.F_over_exactly
  have h1 := @fgF P w g.K mg base CX0 3 _ _ _ _ g _ _ _ _ _ _ _ t_over_exactly h0 S rfl
  apply h1
  intro cdv A outer s H E gu cc
  exact (s_cons (s_set cc 2 (x_bin (q_mul cc) (x_lst (a_cons x_int a_nil)) (x_bin (q_add cc) (x_bin q_sub (x_callB (c_len cc) (by rfl) T.z_len (by decide +kernel) (a_cons (x_var 0) a_nil)) (x_callB (c_len cc) (by rfl) T.z_len (by decide +kernel) (a_cons (x_var 1) a_nil))) x_int)))
    (s_cons (s_while 100000 PassesOwn.never (y_cmp o_ge (x_callB (c_len cc) (by rfl) T.z_len (by decide +kernel) (a_cons (x_var 0) a_nil)) (x_callB (c_len cc) (by rfl) T.z_len (by decide +kernel) (a_cons (x_var 1) a_nil))) (s_cons (s_set cc 3 (x_bin q_sub (x_callB (c_len cc) (by rfl) T.z_len (by decide +kernel) (a_cons (x_var 0) a_nil)) (x_callB (c_len cc) (by rfl) T.z_len (by decide +kernel) (a_cons (x_var 1) a_nil))))
    (s_cons (s_asg (q_ix cc (x_var 0) (x_neg x_int)) (q_sub_tg (x_var 2) (x_var 3)))
    (s_cons (s_set cc 0 (x_call (Ek := L2.E0) (f_gap_by T) gu (cc.room.mono (by decide)) (by rfl) T.m_gap_by T.F_gap_by.kp (b_gap_by T) pass0 (a_cons (x_var 0) (a_cons (x_call (Ek := L2.E0) (f_raised T) gu (cc.room.mono (by decide)) (by rfl) T.m_raised T.F_raised.kp (b_raised T) pass0 (a_cons (x_call (Ek := L2.E0) (f_scaled T) gu (cc.room.mono (by decide)) (by rfl) T.m_scaled T.F_scaled.kp (b_scaled T) pass0 (a_cons (x_var 1) (a_cons (q_ix cc (x_var 0) (x_neg x_int)) a_nil))) (a_cons (x_var 3) a_nil))) a_nil))))
    s_nil))))
    (s_cons (s_ret (x_callT (c_tup cc) (by rfl) T.z_tuple (by decide +kernel) (a_cons (x_var 2) a_nil)))
    s_nil)))
theorem c_primes_of : FnScope ["whole", "found", "step"] ["whole"] (defScope s_primes_of) := ⟨rfl, rfl, rfl, by decide +kernel, rfl, by decide +kernel, by decide +kernel⟩
theorem f_primes_of (T : Tx g mg) : FnG P w g.K mg base CX0 (0 + 1) T.a_primes_of T.d_primes_of ["whole"] (spF g 1 F_primes_of) := by
  have S := c_primes_of
  have h0 := T.F_primes_of
  have h1 := @fgF P w g.K mg base CX0 0 _ _ _ _ g _ _ _ _ _ _ _ t_primes_of h0 S rfl
  apply h1
  intro cdv A outer s H E gu cc
  exact (s_cons (s_par2 cc 1 2 (a_cons (x_lst a_nil) (a_cons x_int a_nil)) (by rfl))
    (s_cons (s_while 100000 PassesOwn.never (y_cmp o_le (x_bin (q_mul cc) (x_var 2) (x_var 2)) (x_var 0)) (s_cons (s_if (y_cmp (o_eq cc) (x_bin q_mod (x_var 0) (x_var 2)) x_int) (s_cons (s_expr (x_append cc (x_var 1) (a_cons (x_var 2) a_nil)))
    (s_cons (s_while 100000 PassesOwn.never (y_cmp (o_eq cc) (x_bin q_mod (x_var 0) (x_var 2)) x_int) (s_cons (s_set cc 0 (x_bin q_fdiv (x_var 0) (x_var 2)))
    s_nil))
    s_nil)) s_nil)
    (s_cons (s_set cc 2 (x_bin (q_add cc) (x_var 2) x_int))
    s_nil)))
    (s_cons (s_ret (x_ite (y_cmp o_gt (x_var 0) x_int) (x_bin (q_add cc) (x_var 1) (x_lst (a_cons (x_var 0) a_nil))) (x_var 1)))
    s_nil)))
theorem c_stretched : FnScope ["row", "many", "found", "at", "number"] ["row", "many"] (defScope s_stretched) := ⟨rfl, rfl, rfl, by decide +kernel, rfl, by decide +kernel, by decide +kernel⟩
theorem f_stretched (T : Tx g mg) : FnG P w g.K mg base CX0 (0 + 1) T.a_stretched T.d_stretched ["row", "many"] (spF g 2 F_stretched) := by
  have S := c_stretched
  have h0 := T.F_stretched
  have h1 := @fgF P w g.K mg base CX0 0 _ _ _ _ g _ _ _ _ _ _ _ t_stretched h0 S rfl
  apply h1
  intro cdv A outer s H E gu cc
  exact (s_cons (s_set cc 2 (x_bin (q_mul cc) (x_lst (a_cons x_int a_nil)) (x_bin (q_add cc) (x_bin (q_mul cc) (x_bin q_sub (x_callB (c_len cc) (by rfl) T.z_len (by decide +kernel) (a_cons (x_var 0) a_nil)) x_int) (x_var 1)) x_int)))
    (s_cons (s_for cc PassesOwn.never (i_enum cc (by rfl) T.z_enumerate (a_cons (x_var 0) a_nil)) (g_tup cc 2 (g_cons (g_name cc 3) (g_cons (g_name cc 4) g_nil))) (s_cons (s_asg (x_var 4) (q_sub_tg (x_var 2) (x_bin (q_mul cc) (x_var 3) (x_var 1))))
    s_nil))
    (s_cons (s_ret (x_callT (c_tup cc) (by rfl) T.z_tuple (by decide +kernel) (a_cons (x_var 2) a_nil)))
    s_nil)))
theorem c_cyclotomic_row : FnScope ["order", "row", "left", "prime"] ["order"] (defScope s_cyclotomic_row) := ⟨rfl, rfl, rfl, by decide +kernel, rfl, by decide +kernel, by decide +kernel⟩
theorem f_cyclotomic_row (T : Tx g mg) : FnG P w g.K mg base CX0 (4 + 1) T.a_cyclotomic_row T.d_cyclotomic_row ["order"] (spF g 1 F_cyclotomic_row) := by
  have S := c_cyclotomic_row
  have h0 := T.F_cyclotomic_row
  have h1 := @fgF P w g.K mg base CX0 4 _ _ _ _ g _ _ _ _ _ _ _ t_cyclotomic_row h0 S rfl
  apply h1
  intro cdv A outer s H E gu cc
  exact (s_cons (s_par2 cc 1 2 (a_cons (x_tup (a_cons (x_neg x_int) (a_cons x_int a_nil))) (a_cons (x_var 0) a_nil)) (by rfl))
    (s_cons (s_for cc PassesOwn.never (i_seq cc (x_call (Ek := L2.E0) (f_primes_of T) gu (cc.room.mono (by decide)) (by rfl) T.m_primes_of T.F_primes_of.kp (b_primes_of T) pass0 (a_cons (x_var 0) a_nil))) (g_name cc 3) (s_cons (s_par2 cc 1 2 (a_cons (x_call (Ek := L2.E0) (f_over_exactly T) gu (cc.room.mono (by decide)) (by rfl) T.m_over_exactly T.F_over_exactly.kp (b_over_exactly T) pass0 (a_cons (x_call (Ek := L2.E0) (f_stretched T) gu (cc.room.mono (by decide)) (by rfl) T.m_stretched T.F_stretched.kp (b_stretched T) pass0 (a_cons (x_var 1) (a_cons (x_var 3) a_nil))) (a_cons (x_var 1) a_nil))) (a_cons (x_bin q_fdiv (x_var 2) (x_var 3)) a_nil)) (by rfl))
    s_nil))
    (s_cons (s_ret (x_call (Ek := L2.E0) (f_stretched T) gu (cc.room.mono (by decide)) (by rfl) T.m_stretched T.F_stretched.kp (b_stretched T) pass0 (a_cons (x_var 1) (a_cons (x_var 2) a_nil))))
    s_nil)))
theorem c_cyclotomic_polynomial : FnScope ["order"] ["order"] (defScope s_cyclotomic_polynomial) := ⟨rfl, rfl, rfl, by decide +kernel, rfl, by decide +kernel, by decide +kernel⟩
theorem f_cyclotomic_polynomial (T : Tx g mg) : FnG P w g.K mg base CX0 (5 + 1) T.a_cyclotomic_polynomial T.d_cyclotomic_polynomial ["order"] (spF g 1 F_cyclotomic_polynomial) := by
  have S := c_cyclotomic_polynomial
  have h0 := T.F_cyclotomic_polynomial
  have h1 := @fgF P w g.K mg base CX0 5 _ _ _ _ g _ _ _ _ _ _ _ t_cyclotomic_polynomial h0 S rfl
  apply h1
  intro cdv A outer s H E gu cc
  exact (s_cons (s_expr (x_call (Ek := L2.E0) (f_check_order T) gu (cc.room.mono (by decide)) (by rfl) T.m_check_order T.F_check_order.kp (b_check_order T) pass0 (a_cons (x_var 0) a_nil)))
    (s_cons (s_ret (x_call (Ek := L2.E0) (f_cyclotomic_row T) gu (cc.room.mono (by decide)) (by rfl) T.m_cyclotomic_row T.F_cyclotomic_row.kp (b_cyclotomic_row T) pass0 (a_cons (x_var 0) a_nil)))
    s_nil))
theorem c_all_units : FnScope ["order", "each"] ["order"] (defScope s_all_units) := ⟨rfl, rfl, rfl, by decide +kernel, rfl, by decide +kernel, by decide +kernel⟩
theorem f_all_units (T : Tx g mg) : FnG P w g.K mg base CX0 (0 + 1) T.a_all_units T.d_all_units ["order"] (spF g 1 F_all_units) := by
  have S := c_all_units
  have h0 := T.F_all_units
  have h1 := @fgF P w g.K mg base CX0 0 _ _ _ _ g _ _ _ _ _ _ _ t_all_units h0 S rfl
  apply h1
  intro cdv A outer s H E gu cc
  exact (s_cons (s_ret (x_callT (c_tup cc) (by rfl) T.z_tuple (by decide +kernel) (a_cons (x_lc cc S.nd (i_rng2 (by rfl) T.z_range (a_cons x_int (a_cons (x_bin (q_add cc) (x_var 0) x_int) a_nil))) (blkOk_by (own := [("each", 1)]) (by kernel_rfl)) (own_name 1 (by decide)) (fun _ _ _ _ _ => (pg_name (i := 1) S.nd (by rfl) (Or.inl rfl))) (fun _ _ _ _ _ => (if_one (y_cmp (o_eq (Cok.blk cc)) (x_callM c_gcd (by rfl) T.q_gcd (a_cons (x_var 1) (a_cons (x_var 0) a_nil))) x_int))) (fun _ _ _ _ _ => (x_var 1))) a_nil)))
    s_nil)
theorem c_units : FnScope ["order"] ["order"] (defScope s_units) := ⟨rfl, rfl, rfl, by decide +kernel, rfl, by decide +kernel, by decide +kernel⟩
theorem f_units (T : Tx g mg) : FnG P w g.K mg base CX0 (4 + 1) T.a_units T.d_units ["order"] (spF g 1 F_units) := by
  have S := c_units
  have h0 := T.F_units
  have h1 := @fgF P w g.K mg base CX0 4 _ _ _ _ g _ _ _ _ _ _ _ t_units h0 S rfl
  apply h1
  intro cdv A outer s H E gu cc
  exact (s_cons (s_expr (x_call (Ek := L2.E0) (f_check_order T) gu (cc.room.mono (by decide)) (by rfl) T.m_check_order T.F_check_order.kp (b_check_order T) pass0 (a_cons (x_var 0) a_nil)))
    (s_cons (s_ret (x_call (Ek := L2.E0) (f_all_units T) gu (cc.room.mono (by decide)) (by rfl) T.m_all_units T.F_all_units.kp (b_all_units T) pass0 (a_cons (x_var 0) a_nil)))
    s_nil))
theorem c__law_right : FnScope ["n", "other", "due", "whole", "d", "told"] ["n", "other"] (defScope s__law_right) := ⟨rfl, rfl, rfl, by decide +kernel, rfl, by decide +kernel, by decide +kernel⟩
theorem f__law_right (T : Tx g mg) : FnG P w g.K mg base CX0 (6 + 1) T.a__law_right T.d__law_right ["n", "other"] (spF g 2 F__law_right) := by
  have S := c__law_right
  have h0 := T.F__law_right
  have h1 := @fgF P w g.K mg base CX0 6 _ _ _ _ g _ _ _ _ _ _ _ t__law_right h0 S rfl
  apply h1
  intro cdv A outer s H E gu cc
  exact (s_cons (s_set cc 2 (x_tup (a_cons (x_callT (c_tup cc) (by rfl) T.z_tuple (by decide +kernel) (a_cons (x_call (Ek := L2.E0) (f__law_units T) gu (cc.room.mono (by decide)) (by rfl) T.m__law_units T.F__law_units.kp (b__law_units T) pass0 (a_cons (x_var 0) a_nil)) a_nil)) (a_cons (x_callT (c_tup cc) (by rfl) T.z_tuple (by decide +kernel) (a_cons (x_call (Ek := L2.E0) (f__law_circle T) gu (cc.room.mono (by decide)) (by rfl) T.m__law_circle T.F__law_circle.kp (b__law_circle T) pass0 (a_cons (x_var 0) a_nil)) a_nil)) a_nil))))
    (s_cons (s_if (y_cmp (o_ne cc) (x_callB (c_repr cc gu) (by rfl) T.z_repr (by decide +kernel) (a_cons (x_tup (a_cons (x_call (Ek := L2.E0) (f_units T) gu (cc.room.mono (by decide)) (by rfl) T.m_units T.F_units.kp (b_units T) pass0 (a_cons (x_var 0) a_nil)) (a_cons (x_call (Ek := L2.E0) (f_cyclotomic_polynomial T) gu (cc.room.mono (by decide)) (by rfl) T.m_cyclotomic_polynomial T.F_cyclotomic_polynomial.kp (b_cyclotomic_polynomial T) pass0 (a_cons (x_var 0) a_nil)) a_nil))) a_nil)) (x_callB (c_repr cc gu) (by rfl) T.z_repr (by decide +kernel) (a_cons (x_var 2) a_nil))) (s_cons (s_ret x_bl)
    s_nil) s_nil)
    (s_cons (s_if (y_cmp (o_ne cc) (x_callB (c_repr cc gu) (by rfl) T.z_repr (by decide +kernel) (a_cons (x_tup (a_cons (x_callK0 (Ek := L2.E0) (f_units T) gu (cc.room.mono (by decide)) (by rfl) T.m_units T.F_units.kp (b_units_0_order T) pass0 (xk_cons (x_var 1) xk_nil)) (a_cons (x_callK0 (Ek := L2.E0) (f_cyclotomic_polynomial T) gu (cc.room.mono (by decide)) (by rfl) T.m_cyclotomic_polynomial T.F_cyclotomic_polynomial.kp (b_cyclotomic_polynomial_0_order T) pass0 (xk_cons (x_var 1) xk_nil)) a_nil))) a_nil)) (x_callB (c_repr cc gu) (by rfl) T.z_repr (by decide +kernel) (a_cons (x_tup (a_cons (x_callT (c_tup cc) (by rfl) T.z_tuple (by decide +kernel) (a_cons (x_call (Ek := L2.E0) (f__law_units T) gu (cc.room.mono (by decide)) (by rfl) T.m__law_units T.F__law_units.kp (b__law_units T) pass0 (a_cons (x_var 1) a_nil)) a_nil)) (a_cons (x_callT (c_tup cc) (by rfl) T.z_tuple (by decide +kernel) (a_cons (x_call (Ek := L2.E0) (f__law_circle T) gu (cc.room.mono (by decide)) (by rfl) T.m__law_circle T.F__law_circle.kp (b__law_circle T) pass0 (a_cons (x_var 1) a_nil)) a_nil)) a_nil))) a_nil))) (s_cons (s_ret x_bl)
    s_nil) s_nil)
    (s_cons (s_set cc 3 (x_lst (a_cons x_int a_nil)))
    (s_cons (s_for cc PassesOwn.never (i_seq cc (x_call (Ek := L2.E0) (f__law_divisors T) gu (cc.room.mono (by decide)) (by rfl) T.m__law_divisors T.F__law_divisors.kp (b__law_divisors T) pass0 (a_cons (x_var 0) a_nil))) (g_name cc 4) (s_cons (s_set cc 5 (x_call (Ek := L2.E0) (f_cyclotomic_polynomial T) gu (cc.room.mono (by decide)) (by rfl) T.m_cyclotomic_polynomial T.F_cyclotomic_polynomial.kp (b_cyclotomic_polynomial T) pass0 (a_cons (x_var 4) a_nil)))
    (s_cons (s_if (y_w (w_or (y_not (y_tru cc (x_isi cc .tuple (by rfl) T.z_isinstance (by rfl) T.z_tuple (by decide +kernel) (x_var 5)))) (w_or1 (y_cmp (o_ne cc) (x_callB (c_len cc) (by rfl) T.z_len (by decide +kernel) (a_cons (x_var 5) a_nil)) (x_bin (q_add cc) (x_callB (c_len cc) (by rfl) T.z_len (by decide +kernel) (a_cons (x_call (Ek := L2.E0) (f__law_units T) gu (cc.room.mono (by decide)) (by rfl) T.m__law_units T.F__law_units.kp (b__law_units T) pass0 (a_cons (x_var 4) a_nil)) a_nil)) x_int))))) (s_cons (s_ret x_bl)
    s_nil) s_nil)
    (s_cons (s_set cc 3 (x_call (Ek := L2.E0) (f__law_times T) gu (cc.room.mono (by decide)) (by rfl) T.m__law_times T.F__law_times.kp (b__law_times T) pass0 (a_cons (x_var 3) (a_cons (x_var 5) a_nil))))
    s_nil))))
    (s_cons (s_if (y_cmp (o_ne cc) (x_var 3) (x_bin (q_add cc) (x_bin (q_add cc) (x_lst (a_cons (x_neg x_int) a_nil)) (x_bin (q_mul cc) (x_lst (a_cons x_int a_nil)) (x_bin q_sub (x_var 0) x_int))) (x_lst (a_cons x_int a_nil)))) (s_cons (s_ret x_bl)
    s_nil) s_nil)
    (s_cons (s_ret (x_cmp (o_eq cc) (x_callB (c_repr cc gu) (by rfl) T.z_repr (by decide +kernel) (a_cons (x_tup (a_cons (x_callK0 (Ek := L2.E0) (f_units T) gu (cc.room.mono (by decide)) (by rfl) T.m_units T.F_units.kp (b_units_0_order T) pass0 (xk_cons (x_var 0) xk_nil)) (a_cons (x_callK0 (Ek := L2.E0) (f_cyclotomic_polynomial T) gu (cc.room.mono (by decide)) (by rfl) T.m_cyclotomic_polynomial T.F_cyclotomic_polynomial.kp (b_cyclotomic_polynomial_0_order T) pass0 (xk_cons (x_var 0) xk_nil)) a_nil))) a_nil)) (x_callB (c_repr cc gu) (by rfl) T.z_repr (by decide +kernel) (a_cons (x_var 2) a_nil))))
    s_nil)))))))
theorem c__law_well : FnScope ["script", "turn", "own", "mixed", "cell"] ["script", "turn"] (defScope s__law_well) := ⟨rfl, rfl, rfl, by decide +kernel, rfl, by decide +kernel, by decide +kernel⟩
theorem f__law_well (T : Tx g mg) : FnG P w g.K mg base CX0 (0 + 1) T.a__law_well T.d__law_well ["script", "turn"] (spF g 2 F__law_well) := by
  have S := c__law_well
  have h0 := T.F__law_well
  have h1 := @fgF P w g.K mg base CX0 0 _ _ _ _ g _ _ _ _ _ _ _ t__law_well h0 S rfl
  apply h1
  intro cdv A outer s H E gu cc
  exact (s_cons (s_set cc 2 (x_ite (y_cmp o_lt (x_var 1) (x_callB (c_len cc) (by rfl) T.z_len (by decide +kernel) (a_cons (x_var 0) a_nil))) (x_callT (c_int) (by rfl) T.z_int (by decide +kernel) (a_cons (q_ix cc (x_var 0) (x_var 1)) a_nil)) x_int))
    (s_cons (s_set cc 3 (x_bin (q_add cc) x_int (x_bin (q_mul cc) x_int (x_var 1))))
    (s_cons (s_for cc PassesOwn.never (i_seq cc (x_slice cc (x_var 0) part_none (part_some x_int))) (g_name cc 4) (s_cons (s_set cc 3 (x_bin q_mod (x_callT (c_int) (by rfl) T.z_int (by decide +kernel) (a_cons (x_bin (q_add cc) (x_bin (q_add cc) (x_bin (q_mul cc) (x_var 3) x_int) (x_bin q_mod (x_callT (c_int) (by rfl) T.z_int (by decide +kernel) (a_cons (x_var 4) a_nil)) x_int)) x_int) a_nil)) x_int))
    s_nil))
    (s_cons (s_set cc 3 (x_bin q_mod (x_callT (c_int) (by rfl) T.z_int (by decide +kernel) (a_cons (x_bin (q_add cc) (x_bin (q_add cc) (x_bin (q_mul cc) (x_var 3) x_int) (x_bin (q_mul cc) (x_bin q_mod (x_callT (c_int) (by rfl) T.z_int (by decide +kernel) (a_cons (x_var 2) a_nil)) x_int) x_int)) x_int) a_nil)) x_int))
    (s_cons (s_ret (x_lst (a_cons (x_ite (y_cmp o_ge (x_callB (c_abs) (by rfl) T.z_abs (by decide +kernel) (a_cons (x_var 2) a_nil)) (x_bin q_pow x_int x_int)) (x_callB (c_abs) (by rfl) T.z_abs (by decide +kernel) (a_cons (x_var 2) a_nil)) x_int) (a_cons (x_var 3) (a_cons x_int a_nil)))))
    s_nil)))))
theorem c_law : FnScope ["script", "turn", "well", "n", "spare"] ["script"] (defScope s_law) := ⟨rfl, rfl, rfl, by decide +kernel, rfl, by decide +kernel, by decide +kernel⟩
theorem f_law (T : Tx g mg) : FnG P w g.K mg base CX0 (7 + 1) T.a_law T.d_law ["script"] (spF g 1 F_law) := by
  have S := c_law
  have h0 := T.F_law
  have h1 := @fgF P w g.K mg base CX0 7 _ _ _ _ g _ _ _ _ _ _ _ t_law h0 S rfl
  apply h1
  intro cdv A outer s H E gu cc
  exact (s_cons (s_for cc PassesOwn.never (i_rng1 (by rfl) T.z_range (a_cons (x_callB (c_max cc) (by rfl) T.z_max (by decide +kernel) (a_cons x_int (a_cons (x_callB (c_min cc) (by rfl) T.z_min (by decide +kernel) (a_cons (x_callB (c_len cc) (by rfl) T.z_len (by decide +kernel) (a_cons (x_var 0) a_nil)) (a_cons x_int a_nil))) a_nil))) a_nil)) (g_name cc 1) (s_cons (s_set cc 2 (x_call (Ek := L2.E0) (f__law_well T) gu (cc.room.mono (by decide)) (by rfl) T.m__law_well T.F__law_well.kp (b__law_well T) pass0 (a_cons (x_var 0) (a_cons (x_var 1) a_nil))))
    (s_cons (s_set cc 3 (x_ite (y_cmp o_lt (x_var 1) (x_callB (c_len cc) (by rfl) T.z_len (by decide +kernel) (a_cons (x_var 0) a_nil))) (x_bin (q_add cc) (x_bin q_mod (x_callT (c_int) (by rfl) T.z_int (by decide +kernel) (a_cons (q_ix cc (x_var 0) (x_var 1)) a_nil)) x_int) x_int) x_int))
    (s_cons (s_set cc 4 (x_call (Ek := L2.E0) (f__law_draw T) gu (cc.room.mono (by decide)) (by rfl) T.m__law_draw T.F__law_draw.kp (b__law_draw T) pass0 (a_cons (x_var 2) (a_cons x_int a_nil))))
    (s_cons (s_if (y_not (y_tru cc (x_call (Ek := L2.E0) (f__law_right T) gu (cc.room.mono (by decide)) (by rfl) T.m__law_right T.F__law_right.kp (b__law_right T) pass0 (a_cons (x_var 3) (a_cons (x_bin (q_add cc) x_int (x_bin q_mod (x_callT (c_int) (by rfl) T.z_int (by decide +kernel) (a_cons (x_bin (q_add cc) (x_call (Ek := L2.E0) (f__law_draw T) gu (cc.room.mono (by decide)) (by rfl) T.m__law_draw T.F__law_draw.kp (b__law_draw T) pass0 (a_cons (x_var 2) (a_cons x_int a_nil))) (x_var 4)) a_nil)) x_int)) a_nil))))) (s_cons (s_ret x_bl)
    s_nil) s_nil)
    s_nil)))))
    (s_cons (s_ret x_bl)
    s_nil))
end
def D__law_draw : He.DefD := ⟨("_law_draw", none), "_law_draw", "_law_draw", defArgs s__law_draw, defBody s__law_draw, defScope s__law_draw, [], []⟩
def D__law_divisors : He.DefD := ⟨("_law_divisors", none), "_law_divisors", "_law_divisors", defArgs s__law_divisors, defBody s__law_divisors, defScope s__law_divisors, [], []⟩
def D__law_over_step : He.DefD := ⟨("_law_over_step", none), "_law_over_step", "_law_over_step", defArgs s__law_over_step, defBody s__law_over_step, defScope s__law_over_step, [], []⟩
def D__law_primes_of : He.DefD := ⟨("_law_primes_of", none), "_law_primes_of", "_law_primes_of", defArgs s__law_primes_of, defBody s__law_primes_of, defScope s__law_primes_of, [], []⟩
def D__law_sign : He.DefD := ⟨("_law_sign", none), "_law_sign", "_law_sign", defArgs s__law_sign, defBody s__law_sign, defScope s__law_sign, [], []⟩
def D__law_times_step : He.DefD := ⟨("_law_times_step", none), "_law_times_step", "_law_times_step", defArgs s__law_times_step, defBody s__law_times_step, defScope s__law_times_step, [], []⟩
def D__law_circle : He.DefD := ⟨("_law_circle", none), "_law_circle", "_law_circle", defArgs s__law_circle, defBody s__law_circle, defScope s__law_circle, [], []⟩
def D__law_times : He.DefD := ⟨("_law_times", none), "_law_times", "_law_times", defArgs s__law_times, defBody s__law_times, defScope s__law_times, [], []⟩
def D__law_gcd : He.DefD := ⟨("_law_gcd", none), "_law_gcd", "_law_gcd", defArgs s__law_gcd, defBody s__law_gcd, defScope s__law_gcd, [], []⟩
def D__law_units : He.DefD := ⟨("_law_units", none), "_law_units", "_law_units", defArgs s__law_units, defBody s__law_units, defScope s__law_units, [], []⟩
def D_is_whole : He.DefD := ⟨("is_whole", none), "is_whole", "is_whole", defArgs s_is_whole, defBody s_is_whole, defScope s_is_whole, [], []⟩
def D_is_between : He.DefD := ⟨("is_between", none), "is_between", "is_between", defArgs s_is_between, defBody s_is_between, defScope s_is_between, [], []⟩
def D_is_order : He.DefD := ⟨("is_order", none), "is_order", "is_order", defArgs s_is_order, defBody s_is_order, defScope s_is_order, [], []⟩
def D_check_order : He.DefD := ⟨("check_order", none), "check_order", "check_order", defArgs s_check_order, defBody s_check_order, defScope s_check_order, [], []⟩
def D_trimmed : He.DefD := ⟨("trimmed", none), "trimmed", "trimmed", defArgs s_trimmed, defBody s_trimmed, defScope s_trimmed, [], []⟩
def D_scaled : He.DefD := ⟨("scaled", none), "scaled", "scaled", defArgs s_scaled, defBody s_scaled, defScope s_scaled, [], []⟩
def D_sum_by : He.DefD := ⟨("sum_by", none), "sum_by", "sum_by", defArgs s_sum_by, defBody s_sum_by, defScope s_sum_by, [], []⟩
def D_gap_by : He.DefD := ⟨("gap_by", none), "gap_by", "gap_by", defArgs s_gap_by, defBody s_gap_by, defScope s_gap_by, [], []⟩
def D_raised : He.DefD := ⟨("raised", none), "raised", "raised", defArgs s_raised, defBody s_raised, defScope s_raised, [], []⟩
def D_over_exactly : He.DefD := ⟨("over_exactly", none), "over_exactly", "over_exactly", defArgs s_over_exactly, defBody s_over_exactly, defScope s_over_exactly, [], []⟩
def D_primes_of : He.DefD := ⟨("primes_of", none), "primes_of", "primes_of", defArgs s_primes_of, defBody s_primes_of, defScope s_primes_of, [], []⟩
def D_stretched : He.DefD := ⟨("stretched", none), "stretched", "stretched", defArgs s_stretched, defBody s_stretched, defScope s_stretched, [], []⟩
def D_cyclotomic_row : He.DefD := ⟨("cyclotomic_row", none), "cyclotomic_row", "cyclotomic_row", defArgs s_cyclotomic_row, defBody s_cyclotomic_row, defScope s_cyclotomic_row, [], []⟩
def D_cyclotomic_polynomial : He.DefD := ⟨("cyclotomic_polynomial", none), "cyclotomic_polynomial", "cyclotomic_polynomial", defArgs s_cyclotomic_polynomial, defBody s_cyclotomic_polynomial, defScope s_cyclotomic_polynomial, [], []⟩
def D_all_units : He.DefD := ⟨("all_units", none), "all_units", "all_units", defArgs s_all_units, defBody s_all_units, defScope s_all_units, [], []⟩
def D_units : He.DefD := ⟨("units", none), "units", "units", defArgs s_units, defBody s_units, defScope s_units, [], []⟩
def D__law_right : He.DefD := ⟨("_law_right", none), "_law_right", "_law_right", defArgs s__law_right, defBody s__law_right, defScope s__law_right, [], []⟩
def D__law_well : He.DefD := ⟨("_law_well", none), "_law_well", "_law_well", defArgs s__law_well, defBody s__law_well, defScope s__law_well, [], []⟩
def D_law : He.DefD := ⟨("law", none), "law", "law", defArgs s_law, defBody s_law, defScope s_law, [], []⟩
def fns : List He.DefD := [D__law_draw, D__law_divisors, D__law_over_step, D__law_primes_of, D__law_sign, D__law_times_step, D__law_circle, D__law_times, D__law_gcd, D__law_units, D_is_whole, D_is_between, D_is_order, D_check_order, D_trimmed, D_scaled, D_sum_by, D_gap_by, D_raised, D_over_exactly, D_primes_of, D_stretched, D_cyclotomic_row, D_cyclotomic_polynomial, D_all_units, D_units, D__law_right, D__law_well, D_law]
def fas : List He.Fa := [.glo "_law_draw", .glo "_law_divisors", .glo "_law_over_step", .glo "_law_primes_of", .glo "_law_sign", .glo "_law_times_step", .glo "_law_circle", .glo "_law_times", .glo "_law_gcd", .glo "_law_units", .glo "is_whole", .glo "is_between", .glo "is_order", .glo "check_order", .glo "trimmed", .glo "scaled", .glo "sum_by", .glo "gap_by", .glo "raised", .glo "over_exactly", .glo "primes_of", .glo "stretched", .glo "cyclotomic_row", .glo "cyclotomic_polynomial", .glo "all_units", .glo "units", .glo "_law_right", .glo "_law_well", .glo "law", .free "abs", .free "bool", .free "enumerate", .free "int", .free "isinstance", .free "len", .free "list", .free "max", .free "min", .free "range", .free "repr", .free "tuple", .free "zip", .int "MOST_ORDER" 60]
def exs (K : PySem.W.Frag) : Bool := bltB K "gcd" "math.gcd"
theorem facts {P : Program} {w : World} {K : PySem.W.Frag} {h : Heap} {mg : Str → Option Value} {f : Addr} (X : K.In h) (G : h.Ns mainGlobals mg) (hfa : mg ("law" : Str) = some (.ref f)) (c : He.SaysD fas fns K) (cx : exs K = true) :
    ∃ (g : Gc) (fd : FuncData), g.K.In h ∧ (∀ (s : Shared) (u : Value), BindsTo s fd ⟨[u], []⟩ [("script", u)]) ∧ ∀ b0 : Heap, g.K.In b0 → b0.Ns mainGlobals mg → FnG P w g.K mg b0 CX0 8 f fd ["script"] (spF g 1 F_law) := by
  obtain ⟨d__law_draw, F__law_draw⟩ := c.def_ 0 (d := D__law_draw) rfl
  obtain ⟨d__law_divisors, F__law_divisors⟩ := c.def_ 1 (d := D__law_divisors) rfl
  obtain ⟨d__law_over_step, F__law_over_step⟩ := c.def_ 2 (d := D__law_over_step) rfl
  obtain ⟨d__law_primes_of, F__law_primes_of⟩ := c.def_ 3 (d := D__law_primes_of) rfl
  obtain ⟨d__law_sign, F__law_sign⟩ := c.def_ 4 (d := D__law_sign) rfl
  obtain ⟨d__law_times_step, F__law_times_step⟩ := c.def_ 5 (d := D__law_times_step) rfl
  obtain ⟨d__law_circle, F__law_circle⟩ := c.def_ 6 (d := D__law_circle) rfl
  obtain ⟨d__law_times, F__law_times⟩ := c.def_ 7 (d := D__law_times) rfl
  obtain ⟨d__law_gcd, F__law_gcd⟩ := c.def_ 8 (d := D__law_gcd) rfl
  obtain ⟨d__law_units, F__law_units⟩ := c.def_ 9 (d := D__law_units) rfl
  obtain ⟨d_is_whole, F_is_whole⟩ := c.def_ 10 (d := D_is_whole) rfl
  obtain ⟨d_is_between, F_is_between⟩ := c.def_ 11 (d := D_is_between) rfl
  obtain ⟨d_is_order, F_is_order⟩ := c.def_ 12 (d := D_is_order) rfl
  obtain ⟨d_check_order, F_check_order⟩ := c.def_ 13 (d := D_check_order) rfl
  obtain ⟨d_trimmed, F_trimmed⟩ := c.def_ 14 (d := D_trimmed) rfl
  obtain ⟨d_scaled, F_scaled⟩ := c.def_ 15 (d := D_scaled) rfl
  obtain ⟨d_sum_by, F_sum_by⟩ := c.def_ 16 (d := D_sum_by) rfl
  obtain ⟨d_gap_by, F_gap_by⟩ := c.def_ 17 (d := D_gap_by) rfl
  obtain ⟨d_raised, F_raised⟩ := c.def_ 18 (d := D_raised) rfl
  obtain ⟨d_over_exactly, F_over_exactly⟩ := c.def_ 19 (d := D_over_exactly) rfl
  obtain ⟨d_primes_of, F_primes_of⟩ := c.def_ 20 (d := D_primes_of) rfl
  obtain ⟨d_stretched, F_stretched⟩ := c.def_ 21 (d := D_stretched) rfl
  obtain ⟨d_cyclotomic_row, F_cyclotomic_row⟩ := c.def_ 22 (d := D_cyclotomic_row) rfl
  obtain ⟨d_cyclotomic_polynomial, F_cyclotomic_polynomial⟩ := c.def_ 23 (d := D_cyclotomic_polynomial) rfl
  obtain ⟨d_all_units, F_all_units⟩ := c.def_ 24 (d := D_all_units) rfl
  obtain ⟨d_units, F_units⟩ := c.def_ 25 (d := D_units) rfl
  obtain ⟨d__law_right, F__law_right⟩ := c.def_ 26 (d := D__law_right) rfl
  obtain ⟨d__law_well, F__law_well⟩ := c.def_ 27 (d := D__law_well) rfl
  obtain ⟨d_law, F_law⟩ := c.def_ 28 (d := D_law) rfl
  have e := hfa.symm.trans (He.glo_ok X G (c.fact 28 (f := .glo "law") rfl))
  cases e
  let g : Gc := ⟨K, fun _ => 0, fun _ => []⟩
  let T : Tx g mg := ⟨He.free_ok X G (c.fact 29 (f := .free "abs") rfl),
    He.free_ok X G (c.fact 30 (f := .free "bool") rfl),
    He.free_ok X G (c.fact 31 (f := .free "enumerate") rfl),
    He.free_ok X G (c.fact 32 (f := .free "int") rfl),
    He.free_ok X G (c.fact 33 (f := .free "isinstance") rfl),
    He.free_ok X G (c.fact 34 (f := .free "len") rfl),
    He.free_ok X G (c.fact 35 (f := .free "list") rfl),
    He.free_ok X G (c.fact 36 (f := .free "max") rfl),
    He.free_ok X G (c.fact 37 (f := .free "min") rfl),
    He.free_ok X G (c.fact 38 (f := .free "range") rfl),
    He.free_ok X G (c.fact 39 (f := .free "repr") rfl),
    He.free_ok X G (c.fact 40 (f := .free "tuple") rfl),
    He.free_ok X G (c.fact 41 (f := .free "zip") rfl),
    He.int_ok X G (c.fact 42 (f := .int "MOST_ORDER" 60) rfl),
    blt_ok X G cx,
    He.fAd K ("_law_draw", none),
    d__law_draw,
    F__law_draw,
    He.glo_ok X G (c.fact 0 (f := .glo "_law_draw") rfl),
    He.fAd K ("_law_divisors", none),
    d__law_divisors,
    F__law_divisors,
    He.glo_ok X G (c.fact 1 (f := .glo "_law_divisors") rfl),
    He.fAd K ("_law_over_step", none),
    d__law_over_step,
    F__law_over_step,
    He.glo_ok X G (c.fact 2 (f := .glo "_law_over_step") rfl),
    He.fAd K ("_law_primes_of", none),
    d__law_primes_of,
    F__law_primes_of,
    He.glo_ok X G (c.fact 3 (f := .glo "_law_primes_of") rfl),
    He.fAd K ("_law_sign", none),
    d__law_sign,
    F__law_sign,
    He.glo_ok X G (c.fact 4 (f := .glo "_law_sign") rfl),
    He.fAd K ("_law_times_step", none),
    d__law_times_step,
    F__law_times_step,
    He.glo_ok X G (c.fact 5 (f := .glo "_law_times_step") rfl),
    He.fAd K ("_law_circle", none),
    d__law_circle,
    F__law_circle,
    He.glo_ok X G (c.fact 6 (f := .glo "_law_circle") rfl),
    He.fAd K ("_law_times", none),
    d__law_times,
    F__law_times,
    He.glo_ok X G (c.fact 7 (f := .glo "_law_times") rfl),
    He.fAd K ("_law_gcd", none),
    d__law_gcd,
    F__law_gcd,
    He.glo_ok X G (c.fact 8 (f := .glo "_law_gcd") rfl),
    He.fAd K ("_law_units", none),
    d__law_units,
    F__law_units,
    He.glo_ok X G (c.fact 9 (f := .glo "_law_units") rfl),
    He.fAd K ("is_whole", none),
    d_is_whole,
    F_is_whole,
    He.glo_ok X G (c.fact 10 (f := .glo "is_whole") rfl),
    He.fAd K ("is_between", none),
    d_is_between,
    F_is_between,
    He.glo_ok X G (c.fact 11 (f := .glo "is_between") rfl),
    He.fAd K ("is_order", none),
    d_is_order,
    F_is_order,
    He.glo_ok X G (c.fact 12 (f := .glo "is_order") rfl),
    He.fAd K ("check_order", none),
    d_check_order,
    F_check_order,
    He.glo_ok X G (c.fact 13 (f := .glo "check_order") rfl),
    He.fAd K ("trimmed", none),
    d_trimmed,
    F_trimmed,
    He.glo_ok X G (c.fact 14 (f := .glo "trimmed") rfl),
    He.fAd K ("scaled", none),
    d_scaled,
    F_scaled,
    He.glo_ok X G (c.fact 15 (f := .glo "scaled") rfl),
    He.fAd K ("sum_by", none),
    d_sum_by,
    F_sum_by,
    He.glo_ok X G (c.fact 16 (f := .glo "sum_by") rfl),
    He.fAd K ("gap_by", none),
    d_gap_by,
    F_gap_by,
    He.glo_ok X G (c.fact 17 (f := .glo "gap_by") rfl),
    He.fAd K ("raised", none),
    d_raised,
    F_raised,
    He.glo_ok X G (c.fact 18 (f := .glo "raised") rfl),
    He.fAd K ("over_exactly", none),
    d_over_exactly,
    F_over_exactly,
    He.glo_ok X G (c.fact 19 (f := .glo "over_exactly") rfl),
    He.fAd K ("primes_of", none),
    d_primes_of,
    F_primes_of,
    He.glo_ok X G (c.fact 20 (f := .glo "primes_of") rfl),
    He.fAd K ("stretched", none),
    d_stretched,
    F_stretched,
    He.glo_ok X G (c.fact 21 (f := .glo "stretched") rfl),
    He.fAd K ("cyclotomic_row", none),
    d_cyclotomic_row,
    F_cyclotomic_row,
    He.glo_ok X G (c.fact 22 (f := .glo "cyclotomic_row") rfl),
    He.fAd K ("cyclotomic_polynomial", none),
    d_cyclotomic_polynomial,
    F_cyclotomic_polynomial,
    He.glo_ok X G (c.fact 23 (f := .glo "cyclotomic_polynomial") rfl),
    He.fAd K ("all_units", none),
    d_all_units,
    F_all_units,
    He.glo_ok X G (c.fact 24 (f := .glo "all_units") rfl),
    He.fAd K ("units", none),
    d_units,
    F_units,
    He.glo_ok X G (c.fact 25 (f := .glo "units") rfl),
    He.fAd K ("_law_right", none),
    d__law_right,
    F__law_right,
    He.glo_ok X G (c.fact 26 (f := .glo "_law_right") rfl),
    He.fAd K ("_law_well", none),
    d__law_well,
    F__law_well,
    He.glo_ok X G (c.fact 27 (f := .glo "_law_well") rfl),
    He.fAd K ("law", none),
    d_law,
    F_law,
    He.glo_ok X G (c.fact 28 (f := .glo "law") rfl)⟩
  refine ⟨g, d_law, X, fun s v => FunD.bindsA (ps := ["script"]) F_law (fun _ _ _ _ _ _ us hl => match us, hl with | [_], _ => rfl) s [v] rfl, fun b0 _ _ => f_law T⟩
theorem walk {l : PySem.W.OpenLaw} {q : Program} {loose : List Str} {XP : (Str → Option Value) → Heap → Prop} {YP : World → Heap → Prop} {d : DefRec} {K : Params → PySem.W.Frag} (hn : l.most = some 63) (hdf : d.params.defaults = []) (hd : d.name = "law")
    (hY : ∀ (w : World) (h : Heap), YP w h → (K w.params).In h) (c : ∀ w : World, He.SaysD fas fns (K w.params)) (cx : ∀ w : World, exs (K w.params) = true)
    (hF : ∀ ns : List Int, ns.length ≤ 63 → (∀ z ∈ ns, Builtin.Int.intBits z ≤ 1048576) → ∃ m, F_law [.fl (ns.map D.int)] [] = .ok (.bl true) m) : PySem.W.WalkO q loose XP YP l.row.toRowW d [] (fun f vs => PySem.call f vs) :=
  walk_G (n := 63) (k := 8) (x := "script") (CX := fun _ => CX0) hn (by decide) hdf ⟨rfl, by decide, by decide⟩ (fun w mg fa h Y G hmg => facts (hY w h Y) G (by rw [hd] at hmg; exact hmg) (c w) (cx w)) hF fun _ _ _ _ _ z => z
end
end Gk

set_option Elab.async false
set_option linter.all false
set_option maxRecDepth 1000000
set_option maxHeartbeats 0
/-! k02: what the law asks of one order. -/
namespace Gk
noncomputable section
open PySem PySem.Spec PyProof.Rows L2 Core
def a1 : Tr := (setT 2 (tupF (consF (fnF tupD (consF (fnF (argF 1 F__law_units) (consF (varF 0) nilF)) nilF)) (consF (fnF tupD (consF (fnF (argF 1 F__law_circle) (consF (varF 0) nilF)) nilF)) nilF))))
def a2 : Tr := (ifT (tstF (binF neD (fnF reprD (consF (tupF (consF (fnF (argF 1 F_units) (consF (varF 0) nilF)) (consF (fnF (argF 1 F_cyclotomic_polynomial) (consF (varF 0) nilF)) nilF))) nilF)) (fnF reprD (consF (varF 2) nilF)))) (seqT (retT (cF (.bl false)))
  nxT) nxT)
def a3 : Tr := (ifT (tstF (binF neD (fnF reprD (consF (tupF (consF (kwF 0 1 [0] F_units nilF (consF (varF 1) nilF)) (consF (kwF 0 1 [0] F_cyclotomic_polynomial nilF (consF (varF 1) nilF)) nilF))) nilF)) (fnF reprD (consF (tupF (consF (fnF tupD (consF (fnF (argF 1 F__law_units) (consF (varF 1) nilF)) nilF)) (consF (fnF tupD (consF (fnF (argF 1 F__law_circle) (consF (varF 1) nilF)) nilF)) nilF))) nilF)))) (seqT (retT (cF (.bl false)))
  nxT) nxT)
def a4 : Tr := (seqT (setT 3 (lstF (consF (cF (.int 1)) nilF)))
  (seqT (forT (seqI (fnF (argF 1 F__law_divisors) (consF (varF 0) nilF))) (gN 4) (seqT (setT 5 (fnF (argF 1 F_cyclotomic_polynomial) (consF (varF 4) nilF)))
  (seqT (ifT (orB (notB (truF (isiF .tuple (varF 5)))) (tstF (binF neD (fnF lenD (consF (varF 5) nilF)) (binF addQ (fnF lenD (consF (fnF (argF 1 F__law_units) (consF (varF 4) nilF)) nilF)) (cF (.int 1)))))) (seqT (retT (cF (.bl false)))
  nxT) nxT)
  (seqT (setT 3 (fnF (argF 2 F__law_times) (consF (varF 3) (consF (varF 5) nilF))))
  nxT))))
  (seqT (ifT (tstF (binF neD (varF 3) (binF addQ (binF addQ (lstF (consF (unF negD (cF (.int 1))) nilF)) (binF mulQ (lstF (consF (cF (.int 0)) nilF)) (binF subQ (varF 0) (cF (.int 1))))) (lstF (consF (cF (.int 1)) nilF))))) (seqT (retT (cF (.bl false)))
  nxT) nxT)
  (seqT (retT (binF eqD (fnF reprD (consF (tupF (consF (kwF 0 1 [0] F_units nilF (consF (varF 0) nilF)) (consF (kwF 0 1 [0] F_cyclotomic_polynomial nilF (consF (varF 0) nilF)) nilF))) nilF)) (fnF reprD (consF (varF 2) nilF))))
  nxT))))
theorem right_parts : t__law_right = seqT a1 (seqT a2 (seqT a3 a4)) := rfl
def L0 (n : Nat) (o : D) : Sl := [some (.int (Int.ofNat n)), some o, none, none, none, none]
def st1 (n : Nat) (o : D) : OutS := seqT a1 a2 (L0 n o) []
def DD (n : Nat) : D := match st1 n .non with
  | .nx L _ => (match nthK L 2 with | some d => d | none => .non)
  | _ => .non
def PQ (n i : Nat) : MO := match st1 n .non with
  | .nx _ m => (match getK m i with | some d => d | none => .lst [])
  | _ => .lst []
def okR (o : OutS) : Bool := match o with
  | .rt (.bl true) _ => true
  | _ => false
def st3 (o : Nat) : OutS := a3 (L0 0 (.int (Int.ofNat o))) [.lst [], .lst []]
def XY (n i : Nat) : MO := match st3 n with
  | .nx _ m => (match getK m i with | some d => d | none => .lst [])
  | _ => .lst []
/-- the order's own part -/
def P1 (n : Nat) : Prop := (∀ o : D, st1 n o = .nx [some (.int (Int.ofNat n)), some o, some (DD n), none, none, none] [PQ n 0, PQ n 1]) ∧
  ∀ (o : D) (x y : MO), okR (a4 [some (.int (Int.ofNat n)), some o, some (DD n), none, none, none] [PQ n 0, PQ n 1, x, y]) = true
/-- the other order's -/
def P2 (o : Nat) : Prop := ∀ (a d : Option D) (p q : MO), a3 [a, some (.int (Int.ofNat o)), d, none, none, none] [p, q] = .nx [a, some (.int (Int.ofNat o)), d, none, none, none] [p, q, XY o 2, XY o 3]
end
end Gk

set_option Elab.async false
set_option linter.all false
set_option maxRecDepth 1000000
set_option maxHeartbeats 4000000
/-! k02: the law from its parts. -/
namespace Gk
noncomputable section
open PySem PySem.Spec PyProof.Rows L2 Core
theorem well_is : t__law_well = wellA := rfl
theorem draw_is : t__law_draw = drawA := rfl
theorem body_rt {n : Nat} {t : Tr} {ds : List D} {m m1 : Mem} {d : D} {L : Sl} (hL : ds.map some ++ List.replicate (n - ds.length) none = L) (e : t L m = .rt d m1) : bodyF n t ds m = .ok d m1 := by
  unfold bodyF
  rw [hL, e]
theorem okR_rt {o : OutS} (h : okR o = true) : ∃ m, o = .rt (.bl true) m := by
  unfold okR at h
  split at h
  · exact ⟨_, rfl⟩
  · cases h
theorem right_ok {n o : Nat} (h1 : P1 n) (h2 : P2 o) : ∃ m, F__law_right [.int (Int.ofNat n), .int (Int.ofNat o)] [] = .ok (.bl true) m := by
  have e1 : seqT a1 a2 (L0 n (.int (Int.ofNat o))) [] = .nx [some (.int (Int.ofNat n)), some (.int (Int.ofNat o)), some (DD n), none, none, none] [PQ n 0, PQ n 1] := h1.1 (.int (Int.ofNat o))
  have e3 := h2 (some (.int (Int.ofNat n))) (some (DD n)) (PQ n 0) (PQ n 1)
  have e4 := h1.2 (.int (Int.ofNat o)) (XY o 2) (XY o 3)
  have hall : t__law_right (L0 n (.int (Int.ofNat o))) [] = a4 [some (.int (Int.ofNat n)), some (.int (Int.ofNat o)), some (DD n), none, none, none] [PQ n 0, PQ n 1, XY o 2, XY o 3] := by
    rw [right_parts]
    have q : ∀ (f u v : Tr) (L : Sl) (m : Mem), seqT f (seqT u v) L m = seqT (seqT f u) v L m := by
      intro f u v L m
      unfold seqT
      cases f L m <;> rfl
    rw [q]
    exact (ev_seq (f := seqT a1 a2) (h := seqT a3 a4) e1).trans (ev_seq (f := a3) (h := a4) e3)
  obtain ⟨m1, e5⟩ := okR_rt e4
  exact ⟨m1, body_rt (n := 6) (t := t__law_right) rfl (hall.trans e5)⟩
/-- a call on a memory of its own that gives a datum -/
theorem callF_pure {F : List D → Mem → Out D} {ds : List D} {d : D} {m m' : Mem} (h : F ds [] = .ok d m') (h1 : noRs ds = true) (h2 : noR d = true) : callF F ds m = .ok d m := by
  unfold callF
  rw [if_pos h1, h]
  show backF d m' m = _
  unfold backF
  rw [if_pos h2]
theorem callF_list {F : List D → Mem → Out D} {ds : List D} {n : Nat} {m m' : Mem} {es : List D} (h : F ds [] = .ok (.ref n) m') (h1 : noRs ds = true) (hn : m'[n]? = some (.lst es)) (h2 : noRs es = true) : callF F ds m = .ok (.ref m.length) (m ++ [.lst es]) := by
  unfold callF
  rw [if_pos h1, h]
  show backF (.ref n) m' m = _
  unfold backF
  rw [if_neg (by simp [noR])]
  simp only [hn, if_pos h2]
theorem callF_mem {F : List D → Mem → Out D} {ds : List D} {d : D} {m m' : Mem} (h : F ds m = .ok d m') (h1 : noRs ds = false) : callF F ds m = .ok d m' := by
  unfold callF
  rw [if_neg (by simp [h1]), h]
theorem fl_inv {t : Tg} {b : Tr} {P : Sl → Mem → Prop} : ∀ (ds : List D) (L : Sl) (m : Mem), P L m → (∀ d ∈ ds, ∀ L m, P L m → ∃ L1 m1 L2 m2, t d L m = .ok L1 m1 ∧ b L1 m1 = .nx L2 m2 ∧ P L2 m2) → ∃ L' m', forL t b ds L m = .nx L' m' ∧ P L' m'
  | [], L, m, h, _ => ⟨L, m, rfl, h⟩
  | d :: r, L, m, h, hs => by
    obtain ⟨L1, m1, L2, m2, e1, e2, h2⟩ := hs d List.mem_cons_self L m h
    obtain ⟨L', m', e, h'⟩ := fl_inv r L2 m2 h2 fun d hd => hs d (List.mem_cons_of_mem _ hd)
    exact ⟨L', m', (fl_step e1 e2).trans e, h'⟩
def bodyK : Tr := (seqT (setT 2 (fnF (argF 2 F__law_well) (consF (varF 0) (consF (varF 1) nilF))))
  (seqT (setT 3 (iteF (tstF (binF ltD (varF 1) (fnF lenD (consF (varF 0) nilF)))) (binF addQ (binF modQ (fnF Core.intD (consF (binF ixQ (varF 0) (varF 1)) nilF)) (cF (.int 60))) (cF (.int 1))) (cF (.int 60))))
  (seqT (setT 4 (fnF (argF 2 F__law_draw) (consF (varF 2) (consF (cF (.int 60)) nilF))))
  (seqT (ifT (notB (truF (fnF (argF 2 F__law_right) (consF (varF 3) (consF (binF addQ (cF (.int 1)) (binF modQ (fnF Core.intD (consF (binF addQ (fnF (argF 2 F__law_draw) (consF (varF 2) (consF (cF (.int 60)) nilF))) (varF 4)) nilF)) (cF (.int 60)))) nilF))))) (seqT (retT (cF (.bl false)))
  nxT) nxT)
  nxT))))
theorem law_parts : t_law = seqT (forT (srcI rng1O (consF (fnF maxD (consF (cF (.int 1)) (consF (fnF minD (consF (fnF lenD (consF (varF 0) nilF)) (consF (cF (.int 4)) nilF))) nilF))) nilF)) (gN 1) bodyK) (seqT (retT (cF (.bl true))) nxT) := rfl
theorem call_well {ns : List Int} {t : Nat} {m : Mem} : ∃ ds, callF F__law_well [.fl (ns.map .int), .int (t : Int)] m = .ok (.ref m.length) (m ++ [.lst ds]) ∧ WellL ds := by
  obtain ⟨g, ds, e, W, hn⟩ := well_A (ns := ns) (t := t)
  refine ⟨ds, callF_list (n := 1) (F := F__law_well) (m' := [g, .lst ds]) (by rw [← e, ← well_is]; rfl) ?_ rfl hn, W⟩
  show (noRs (ns.map D.int) && (true && true)) = true
  rw [noRs_ints]; rfl
theorem call_draw {m : Mem} {w : Nat} {ds : List D} {k : Int} (hw : m[w]? = some (.lst ds)) (W : WellL ds) (hk : 0 < k) (hk2 : k < 1000000) :
    ∃ r ds', callF F__law_draw [.ref w, .int k] m = .ok (.int r) (m.set w (.lst ds')) ∧ WellL ds' ∧ 0 ≤ r ∧ r < k := by
  obtain ⟨r, ds', e, W', h1, h2⟩ := draw_A hw W hk hk2
  exact ⟨r, ds', callF_mem (F := F__law_draw) (by rw [← e, ← draw_is]; rfl) rfl, W', h1, h2⟩
theorem body_ok (hR : ∀ n o : Nat, 1 ≤ n → n ≤ 60 → 1 ≤ o → o ≤ 60 → ∃ m, F__law_right [.int (Int.ofNat n), .int (Int.ofNat o)] [] = .ok (.bl true) m) {ns : List Int} {t : Nat} {x2 x3 x4 : Option D} {m : Mem} :
    ∃ y2 y3 y4 m', bodyK [some (.fl (ns.map .int)), some (.int (t : Int)), x2, x3, x4] m = .nx [some (.fl (ns.map .int)), some (.int (t : Int)), y2, y3, y4] m' := by
  obtain ⟨ds, ew, W⟩ := call_well (ns := ns) (t := t) (m := m)
  have hw : (m ++ [MO.lst ds])[m.length]? = some (.lst ds) := by simp
  have hlt : m.length < (m ++ [MO.lst ds]).length := by simp
  obtain ⟨r, ds', ed, W', r1, r2⟩ := call_draw hw W (k := 60) (by decide) (by decide)
  obtain ⟨r', ds'', ed', W'', r1', r2'⟩ := call_draw (set_get hlt) W' (k := 60) (by decide) (by decide)
  have hn : ∃ n : Nat, 1 ≤ n ∧ n ≤ 60 ∧ ∀ (y : Option D) (m : Mem), iteF (tstF (binF ltD (varF 1) (fnF lenD (consF (varF 0) nilF)))) (binF addQ (binF modQ (fnF Core.intD (consF (binF ixQ (varF 0) (varF 1)) nilF)) (cF (.int 60))) (cF (.int 1))) (cF (.int 60)) [some (.fl (ns.map .int)), some (.int (t : Int)), y, x3, x4] m = .ok (.int (Int.ofNat n)) m := by
    by_cases h : t < ns.length
    · have h1 := Int.fmod_nonneg_of_pos ns[t] (b := 60) (by decide)
      have h2 := Int.fmod_lt_of_pos ns[t] (b := 60) (by decide)
      refine ⟨(ns[t].fmod 60 + 1).toNat, by omega, by omega, fun y m => ?_⟩
      have c1 : decide ((t : Int) < ((ns.map D.int).length : Int)) = true := decide_eq_true (by rw [List.length_map]; exact Int.ofNat_lt.mpr h)
      have c2 : ixQ (.fl (ns.map .int)) (.int (t : Int)) m = .ok (.int ns[t]) m := ev_ixF (j := t) (by simp [h])
      have c3 : modQ (.int ns[t]) (.int 60) m = .ok (.int (ns[t].fmod 60)) m := ev_mod (by decide)
      have c4 : Int.ofNat (ns[t].fmod 60 + 1).toNat = ns[t].fmod 60 + 1 := Int.toNat_of_nonneg (by omega)
      simp only [Core.iteF, tstF, binF, varF, cF, fnF, consF, nilF, bindO, boO, frcO_eq, nthK_z, nthK_s, ev_lt, ev_lenF, c1, if_true, c2, ev_intD, c3, ev_add, c4]
    · refine ⟨60, by decide, by decide, fun y m => ?_⟩
      have c1 : decide ((t : Int) < ((ns.map D.int).length : Int)) = false := decide_eq_false (by rw [List.length_map]; exact fun z => h (Int.ofNat_lt.mp z))
      simp only [Core.iteF, tstF, binF, varF, cF, fnF, consF, nilF, bindO, boO, frcO_eq, nthK_z, nthK_s, ev_lt, ev_lenF, c1, Bool.false_eq_true, if_false]
      rfl
  obtain ⟨n, n1, n2, en⟩ := hn
  have o1 := Int.fmod_nonneg_of_pos (r' + r) (b := 60) (by decide)
  have o2 := Int.fmod_lt_of_pos (r' + r) (b := 60) (by decide)
  obtain ⟨mr, er⟩ := hR n (1 + (r' + r).fmod 60).toNat n1 n2 (by omega) (by omega)
  have eo : Int.ofNat (1 + (r' + r).fmod 60).toNat = 1 + (r' + r).fmod 60 := Int.toNat_of_nonneg (by omega)
  rw [eo] at er
  have ec : ∀ m : Mem, callF F__law_right [.int (Int.ofNat n), .int (1 + (r' + r).fmod 60)] m = .ok (.bl true) m := fun m => callF_pure er rfl rfl
  have c3 : ∀ m : Mem, modQ (.int (r' + r)) (.int 60) m = .ok (.int ((r' + r).fmod 60)) m := fun m => ev_mod (by decide)
  have s2 : setT 2 (fnF (argF 2 F__law_well) (consF (varF 0) (consF (varF 1) nilF))) [some (.fl (ns.map .int)), some (.int (t : Int)), x2, x3, x4] m = .nx [some (.fl (ns.map .int)), some (.int (t : Int)), some (.ref m.length), x3, x4] (m ++ [.lst ds]) := by
    simp only [setT, bndS, fnF, consF, nilF, varF, bindO, nthK_z, nthK_s, argF, List.length, if_true, ew, frcO_eq, setK_eq, List.set]
  have main : bodyK [some (.fl (ns.map .int)), some (.int (t : Int)), x2, x3, x4] m = .nx [some (.fl (ns.map .int)), some (.int (t : Int)), some (.ref m.length), some (.int (Int.ofNat n)), some (.int r)] (((m ++ [MO.lst ds]).set m.length (.lst ds')).set m.length (.lst ds'')) := by
    unfold bodyK
    rw [ev_seq s2, ev_seq (ev_set (en _ _))]
    simp only [seqT, setT, ifT, nxT, notB, truF, bndS, fnF, consF, nilF, varF, cF, binF, bindO, nthK_z, nthK_s, argF, List.length, if_true, ed, ed', frcO_eq, setK_eq, List.set, ev_add, ev_intD, c3, ec, truO, truB, Bool.not_true, Bool.false_eq_true, if_false]
  exact ⟨_, _, _, _, main⟩
theorem plain (hR : ∀ n o : Nat, 1 ≤ n → n ≤ 60 → 1 ≤ o → o ≤ 60 → ∃ m, F__law_right [.int (Int.ofNat n), .int (Int.ofNat o)] [] = .ok (.bl true) m) (ns : List Int) : ∃ m, F_law [.fl (ns.map D.int)] [] = .ok (.bl true) m := by
  let k : Int := if (if (4 : Int) < (ns.map D.int).length then 4 else ((ns.map D.int).length : Int)) > 1 then (if (4 : Int) < (ns.map D.int).length then 4 else ((ns.map D.int).length : Int)) else 1
  have hk : 0 ≤ k ∧ k ≤ 4 := by
    have hl : (0 : Int) ≤ ((ns.map D.int).length : Int) := Int.natCast_nonneg _
    simp only [k]
    constructor <;> (split <;> (try split at *) <;> omega)
  have src : (srcI rng1O (consF (fnF maxD (consF (cF (.int 1)) (consF (fnF minD (consF (fnF lenD (consF (varF 0) nilF)) (consF (cF (.int 4)) nilF))) nilF))) nilF)) [some (.fl (ns.map D.int)), none, none, none, none] [] = rng1O [.int k] [] := by
    simp only [srcI, fnF, consF, nilF, varF, cF, bindO, frcO_eq, nthK_z, ev_lenF, ev_minD, ev_maxD, k]
  obtain ⟨ds, e0, hds⟩ : ∃ ds : List D, rng1O [.int k] [] = .ok (.st ds) [] ∧ ∀ d ∈ ds, ∃ t : Nat, d = .int (t : Int) := by
    refine ⟨rngL 0 k.toNat 1, ?_, fun d hd => ?_⟩
    · have hf : fit62 k = true := by
        unfold fit62
        rw [decide_eq_true (by omega), decide_eq_true (by omega)]; rfl
      show (if fit62 k = true then Out.ok (Src.st (rngL 0 k.toNat 1)) [] else .bad) = _
      rw [if_pos hf]
    · obtain ⟨t, _, e⟩ := List.mem_map.mp hd
      exact ⟨t, by rw [← e]; simp⟩
  obtain ⟨L', m', e, hP⟩ := fl_inv (t := gN 1) (b := bodyK) (P := fun L _ => ∃ x1 x2 x3 x4, L = [some (.fl (ns.map D.int)), x1, x2, x3, x4]) ds [some (.fl (ns.map D.int)), none, none, none, none] [] ⟨_, _, _, _, rfl⟩ (by
    rintro d hd _ m ⟨x1, x2, x3, x4, rfl⟩
    obtain ⟨t, rfl⟩ := hds d hd
    obtain ⟨y2, y3, y4, m', eb⟩ := body_ok hR (ns := ns) (t := t) (x2 := x2) (x3 := x3) (x4 := x4) (m := m)
    exact ⟨_, _, _, _, gN_eq, eb, _, _, _, _, rfl⟩)
  have hloop : forT (srcI rng1O (consF (fnF maxD (consF (cF (.int 1)) (consF (fnF minD (consF (fnF lenD (consF (varF 0) nilF)) (consF (cF (.int 4)) nilF))) nilF))) nilF)) (gN 1) bodyK [some (.fl (ns.map D.int)), none, none, none, none] [] = .nx L' m' := by
    unfold forT
    rw [src, e0]
    exact e
  refine ⟨m', ?_⟩
  show (match t_law [some (.fl (ns.map D.int)), none, none, none, none] [] with
      | .nx _ m => Out.ok D.non m
      | .rt d m => .ok d m
      | .exc c fs m => .exc c fs m
      | _ => .bad) = _
  rw [law_parts, ev_seq hloop]
  rfl
end
end Gk

set_option Elab.async false
set_option linter.all false
set_option maxRecDepth 1000000
set_option maxHeartbeats 0
/-! k02: the sixty orders, one by one. -/
namespace Gk
open PySem PySem.Spec PyProof.Rows L2 Core
theorem p_1 : P1 1 ∧ P2 1 := ⟨⟨by intro o; kernel_rfl, by intro o x y; kernel_rfl⟩, by intro a d p q; kernel_rfl⟩
theorem p_2 : P1 2 ∧ P2 2 := ⟨⟨by intro o; kernel_rfl, by intro o x y; kernel_rfl⟩, by intro a d p q; kernel_rfl⟩
theorem p_3 : P1 3 ∧ P2 3 := ⟨⟨by intro o; kernel_rfl, by intro o x y; kernel_rfl⟩, by intro a d p q; kernel_rfl⟩
theorem p_4 : P1 4 ∧ P2 4 := ⟨⟨by intro o; kernel_rfl, by intro o x y; kernel_rfl⟩, by intro a d p q; kernel_rfl⟩
theorem p_5 : P1 5 ∧ P2 5 := ⟨⟨by intro o; kernel_rfl, by intro o x y; kernel_rfl⟩, by intro a d p q; kernel_rfl⟩
theorem p_6 : P1 6 ∧ P2 6 := ⟨⟨by intro o; kernel_rfl, by intro o x y; kernel_rfl⟩, by intro a d p q; kernel_rfl⟩
theorem p_7 : P1 7 ∧ P2 7 := ⟨⟨by intro o; kernel_rfl, by intro o x y; kernel_rfl⟩, by intro a d p q; kernel_rfl⟩
theorem p_8 : P1 8 ∧ P2 8 := ⟨⟨by intro o; kernel_rfl, by intro o x y; kernel_rfl⟩, by intro a d p q; kernel_rfl⟩
theorem p_9 : P1 9 ∧ P2 9 := ⟨⟨by intro o; kernel_rfl, by intro o x y; kernel_rfl⟩, by intro a d p q; kernel_rfl⟩
theorem p_10 : P1 10 ∧ P2 10 := ⟨⟨by intro o; kernel_rfl, by intro o x y; kernel_rfl⟩, by intro a d p q; kernel_rfl⟩
theorem p_11 : P1 11 ∧ P2 11 := ⟨⟨by intro o; kernel_rfl, by intro o x y; kernel_rfl⟩, by intro a d p q; kernel_rfl⟩
theorem p_12 : P1 12 ∧ P2 12 := ⟨⟨by intro o; kernel_rfl, by intro o x y; kernel_rfl⟩, by intro a d p q; kernel_rfl⟩
theorem p_13 : P1 13 ∧ P2 13 := ⟨⟨by intro o; kernel_rfl, by intro o x y; kernel_rfl⟩, by intro a d p q; kernel_rfl⟩
theorem p_14 : P1 14 ∧ P2 14 := ⟨⟨by intro o; kernel_rfl, by intro o x y; kernel_rfl⟩, by intro a d p q; kernel_rfl⟩
theorem p_15 : P1 15 ∧ P2 15 := ⟨⟨by intro o; kernel_rfl, by intro o x y; kernel_rfl⟩, by intro a d p q; kernel_rfl⟩
theorem p_16 : P1 16 ∧ P2 16 := ⟨⟨by intro o; kernel_rfl, by intro o x y; kernel_rfl⟩, by intro a d p q; kernel_rfl⟩
theorem p_17 : P1 17 ∧ P2 17 := ⟨⟨by intro o; kernel_rfl, by intro o x y; kernel_rfl⟩, by intro a d p q; kernel_rfl⟩
theorem p_18 : P1 18 ∧ P2 18 := ⟨⟨by intro o; kernel_rfl, by intro o x y; kernel_rfl⟩, by intro a d p q; kernel_rfl⟩
theorem p_19 : P1 19 ∧ P2 19 := ⟨⟨by intro o; kernel_rfl, by intro o x y; kernel_rfl⟩, by intro a d p q; kernel_rfl⟩
theorem p_20 : P1 20 ∧ P2 20 := ⟨⟨by intro o; kernel_rfl, by intro o x y; kernel_rfl⟩, by intro a d p q; kernel_rfl⟩
end Gk

set_option Elab.async false
set_option linter.all false
set_option maxRecDepth 1000000
set_option maxHeartbeats 0
/-! k02: the sixty orders, one by one. -/
namespace Gk
open PySem PySem.Spec PyProof.Rows L2 Core
theorem p_21 : P1 21 ∧ P2 21 := ⟨⟨by intro o; kernel_rfl, by intro o x y; kernel_rfl⟩, by intro a d p q; kernel_rfl⟩
theorem p_22 : P1 22 ∧ P2 22 := ⟨⟨by intro o; kernel_rfl, by intro o x y; kernel_rfl⟩, by intro a d p q; kernel_rfl⟩
theorem p_23 : P1 23 ∧ P2 23 := ⟨⟨by intro o; kernel_rfl, by intro o x y; kernel_rfl⟩, by intro a d p q; kernel_rfl⟩
theorem p_24 : P1 24 ∧ P2 24 := ⟨⟨by intro o; kernel_rfl, by intro o x y; kernel_rfl⟩, by intro a d p q; kernel_rfl⟩
theorem p_25 : P1 25 ∧ P2 25 := ⟨⟨by intro o; kernel_rfl, by intro o x y; kernel_rfl⟩, by intro a d p q; kernel_rfl⟩
theorem p_26 : P1 26 ∧ P2 26 := ⟨⟨by intro o; kernel_rfl, by intro o x y; kernel_rfl⟩, by intro a d p q; kernel_rfl⟩
theorem p_27 : P1 27 ∧ P2 27 := ⟨⟨by intro o; kernel_rfl, by intro o x y; kernel_rfl⟩, by intro a d p q; kernel_rfl⟩
theorem p_28 : P1 28 ∧ P2 28 := ⟨⟨by intro o; kernel_rfl, by intro o x y; kernel_rfl⟩, by intro a d p q; kernel_rfl⟩
theorem p_29 : P1 29 ∧ P2 29 := ⟨⟨by intro o; kernel_rfl, by intro o x y; kernel_rfl⟩, by intro a d p q; kernel_rfl⟩
theorem p_30 : P1 30 ∧ P2 30 := ⟨⟨by intro o; kernel_rfl, by intro o x y; kernel_rfl⟩, by intro a d p q; kernel_rfl⟩
end Gk

set_option Elab.async false
set_option linter.all false
set_option maxRecDepth 1000000
set_option maxHeartbeats 0
/-! k02: the sixty orders, one by one. -/
namespace Gk
open PySem PySem.Spec PyProof.Rows L2 Core
theorem p_31 : P1 31 ∧ P2 31 := ⟨⟨by intro o; kernel_rfl, by intro o x y; kernel_rfl⟩, by intro a d p q; kernel_rfl⟩
theorem p_32 : P1 32 ∧ P2 32 := ⟨⟨by intro o; kernel_rfl, by intro o x y; kernel_rfl⟩, by intro a d p q; kernel_rfl⟩
theorem p_33 : P1 33 ∧ P2 33 := ⟨⟨by intro o; kernel_rfl, by intro o x y; kernel_rfl⟩, by intro a d p q; kernel_rfl⟩
theorem p_34 : P1 34 ∧ P2 34 := ⟨⟨by intro o; kernel_rfl, by intro o x y; kernel_rfl⟩, by intro a d p q; kernel_rfl⟩
theorem p_35 : P1 35 ∧ P2 35 := ⟨⟨by intro o; kernel_rfl, by intro o x y; kernel_rfl⟩, by intro a d p q; kernel_rfl⟩
theorem p_36 : P1 36 ∧ P2 36 := ⟨⟨by intro o; kernel_rfl, by intro o x y; kernel_rfl⟩, by intro a d p q; kernel_rfl⟩
theorem p_37 : P1 37 ∧ P2 37 := ⟨⟨by intro o; kernel_rfl, by intro o x y; kernel_rfl⟩, by intro a d p q; kernel_rfl⟩
theorem p_38 : P1 38 ∧ P2 38 := ⟨⟨by intro o; kernel_rfl, by intro o x y; kernel_rfl⟩, by intro a d p q; kernel_rfl⟩
theorem p_39 : P1 39 ∧ P2 39 := ⟨⟨by intro o; kernel_rfl, by intro o x y; kernel_rfl⟩, by intro a d p q; kernel_rfl⟩
theorem p_40 : P1 40 ∧ P2 40 := ⟨⟨by intro o; kernel_rfl, by intro o x y; kernel_rfl⟩, by intro a d p q; kernel_rfl⟩
end Gk

set_option Elab.async false
set_option linter.all false
set_option maxRecDepth 1000000
set_option maxHeartbeats 0
/-! k02: the sixty orders, one by one. -/
namespace Gk
open PySem PySem.Spec PyProof.Rows L2 Core
theorem p_41 : P1 41 ∧ P2 41 := ⟨⟨by intro o; kernel_rfl, by intro o x y; kernel_rfl⟩, by intro a d p q; kernel_rfl⟩
theorem p_42 : P1 42 ∧ P2 42 := ⟨⟨by intro o; kernel_rfl, by intro o x y; kernel_rfl⟩, by intro a d p q; kernel_rfl⟩
theorem p_43 : P1 43 ∧ P2 43 := ⟨⟨by intro o; kernel_rfl, by intro o x y; kernel_rfl⟩, by intro a d p q; kernel_rfl⟩
theorem p_44 : P1 44 ∧ P2 44 := ⟨⟨by intro o; kernel_rfl, by intro o x y; kernel_rfl⟩, by intro a d p q; kernel_rfl⟩
theorem p_45 : P1 45 ∧ P2 45 := ⟨⟨by intro o; kernel_rfl, by intro o x y; kernel_rfl⟩, by intro a d p q; kernel_rfl⟩
end Gk

set_option Elab.async false
set_option linter.all false
set_option maxRecDepth 1000000
set_option maxHeartbeats 0
/-! k02: the sixty orders, one by one. -/
namespace Gk
open PySem PySem.Spec PyProof.Rows L2 Core
theorem p_46 : P1 46 ∧ P2 46 := ⟨⟨by intro o; kernel_rfl, by intro o x y; kernel_rfl⟩, by intro a d p q; kernel_rfl⟩
theorem p_47 : P1 47 ∧ P2 47 := ⟨⟨by intro o; kernel_rfl, by intro o x y; kernel_rfl⟩, by intro a d p q; kernel_rfl⟩
theorem p_48 : P1 48 ∧ P2 48 := ⟨⟨by intro o; kernel_rfl, by intro o x y; kernel_rfl⟩, by intro a d p q; kernel_rfl⟩
theorem p_49 : P1 49 ∧ P2 49 := ⟨⟨by intro o; kernel_rfl, by intro o x y; kernel_rfl⟩, by intro a d p q; kernel_rfl⟩
theorem p_50 : P1 50 ∧ P2 50 := ⟨⟨by intro o; kernel_rfl, by intro o x y; kernel_rfl⟩, by intro a d p q; kernel_rfl⟩
end Gk

set_option Elab.async false
set_option linter.all false
set_option maxRecDepth 1000000
set_option maxHeartbeats 0
/-! k02: the sixty orders, one by one. -/
namespace Gk
open PySem PySem.Spec PyProof.Rows L2 Core
theorem p_51 : P1 51 ∧ P2 51 := ⟨⟨by intro o; kernel_rfl, by intro o x y; kernel_rfl⟩, by intro a d p q; kernel_rfl⟩
theorem p_52 : P1 52 ∧ P2 52 := ⟨⟨by intro o; kernel_rfl, by intro o x y; kernel_rfl⟩, by intro a d p q; kernel_rfl⟩
theorem p_53 : P1 53 ∧ P2 53 := ⟨⟨by intro o; kernel_rfl, by intro o x y; kernel_rfl⟩, by intro a d p q; kernel_rfl⟩
theorem p_54 : P1 54 ∧ P2 54 := ⟨⟨by intro o; kernel_rfl, by intro o x y; kernel_rfl⟩, by intro a d p q; kernel_rfl⟩
theorem p_55 : P1 55 ∧ P2 55 := ⟨⟨by intro o; kernel_rfl, by intro o x y; kernel_rfl⟩, by intro a d p q; kernel_rfl⟩
end Gk

set_option Elab.async false
set_option linter.all false
set_option maxRecDepth 1000000
set_option maxHeartbeats 0
/-! k02: the sixty orders, one by one. -/
namespace Gk
open PySem PySem.Spec PyProof.Rows L2 Core
theorem p_56 : P1 56 ∧ P2 56 := ⟨⟨by intro o; kernel_rfl, by intro o x y; kernel_rfl⟩, by intro a d p q; kernel_rfl⟩
theorem p_57 : P1 57 ∧ P2 57 := ⟨⟨by intro o; kernel_rfl, by intro o x y; kernel_rfl⟩, by intro a d p q; kernel_rfl⟩
theorem p_58 : P1 58 ∧ P2 58 := ⟨⟨by intro o; kernel_rfl, by intro o x y; kernel_rfl⟩, by intro a d p q; kernel_rfl⟩
theorem p_59 : P1 59 ∧ P2 59 := ⟨⟨by intro o; kernel_rfl, by intro o x y; kernel_rfl⟩, by intro a d p q; kernel_rfl⟩
theorem p_60 : P1 60 ∧ P2 60 := ⟨⟨by intro o; kernel_rfl, by intro o x y; kernel_rfl⟩, by intro a d p q; kernel_rfl⟩
end Gk

set_option Elab.async false
set_option linter.all false
set_option maxRecDepth 1000000
set_option maxHeartbeats 0
namespace Gk
theorem all60 : ∀ n : Nat, 1 ≤ n → n ≤ 60 → P1 n ∧ P2 n := by
  intro n h1 h2
  match n, h1, h2 with
  | 1, _, _ => exact p_1
  | 2, _, _ => exact p_2
  | 3, _, _ => exact p_3
  | 4, _, _ => exact p_4
  | 5, _, _ => exact p_5
  | 6, _, _ => exact p_6
  | 7, _, _ => exact p_7
  | 8, _, _ => exact p_8
  | 9, _, _ => exact p_9
  | 10, _, _ => exact p_10
  | 11, _, _ => exact p_11
  | 12, _, _ => exact p_12
  | 13, _, _ => exact p_13
  | 14, _, _ => exact p_14
  | 15, _, _ => exact p_15
  | 16, _, _ => exact p_16
  | 17, _, _ => exact p_17
  | 18, _, _ => exact p_18
  | 19, _, _ => exact p_19
  | 20, _, _ => exact p_20
  | 21, _, _ => exact p_21
  | 22, _, _ => exact p_22
  | 23, _, _ => exact p_23
  | 24, _, _ => exact p_24
  | 25, _, _ => exact p_25
  | 26, _, _ => exact p_26
  | 27, _, _ => exact p_27
  | 28, _, _ => exact p_28
  | 29, _, _ => exact p_29
  | 30, _, _ => exact p_30
  | 31, _, _ => exact p_31
  | 32, _, _ => exact p_32
  | 33, _, _ => exact p_33
  | 34, _, _ => exact p_34
  | 35, _, _ => exact p_35
  | 36, _, _ => exact p_36
  | 37, _, _ => exact p_37
  | 38, _, _ => exact p_38
  | 39, _, _ => exact p_39
  | 40, _, _ => exact p_40
  | 41, _, _ => exact p_41
  | 42, _, _ => exact p_42
  | 43, _, _ => exact p_43
  | 44, _, _ => exact p_44
  | 45, _, _ => exact p_45
  | 46, _, _ => exact p_46
  | 47, _, _ => exact p_47
  | 48, _, _ => exact p_48
  | 49, _, _ => exact p_49
  | 50, _, _ => exact p_50
  | 51, _, _ => exact p_51
  | 52, _, _ => exact p_52
  | 53, _, _ => exact p_53
  | 54, _, _ => exact p_54
  | 55, _, _ => exact p_55
  | 56, _, _ => exact p_56
  | 57, _, _ => exact p_57
  | 58, _, _ => exact p_58
  | 59, _, _ => exact p_59
  | 60, _, _ => exact p_60
  | 0, h, _ => exact absurd h (by decide)
  | n + 61, _, h => exact absurd h (by omega)
theorem law_plain (ns : List Int) : ∃ m, F_law [.fl (ns.map Core.D.int)] [] = .ok (.bl true) m :=
  plain (fun n o n1 n2 o1 o2 => right_ok (all60 n n1 n2).1 (all60 o o1 o2).2) ns
end Gk
open PySem PySem.W PyProof.Rows
set_option maxRecDepth 100000 in
set_option maxHeartbeats 0 in
theorem PySem.Challenge.cw_kroneckerweber_k02_units_and_cyclotomic_holds : PySem.Challenge.rw_kroneckerweber_k02_units_and_cyclotomic.Holds := by
  w_on; o_law; k_head; (case hw => w_witness2)
  k_fill
  refine Gk.walk (l := PySem.Challenge.rw_kroneckerweber_k02_units_and_cyclotomic) rfl rfl rfl (fun w h Y => PySem.W.kIn_of Y) ?c ?cx ?p
  case c => intro w; unfold He.SaysD; kernel_rfl
  case cx => intro w; kernel_rfl
  case p => intro ns _ _; exact Gk.law_plain ns
