import PyProof.Rows.All
import Wide.All
import OpenK.AllK
import Wide.FinOn
import HandS.ForMost
import HandS.Exc
import HandS.ExcOwn
import HandS.WordsExc
import HandS.Lambda
import HandS.IsInst
import HandS.Wide
import HandS.Style
import HandS.TupAny
import HandS.WordsDict
import HandS.Conv
import PyProof.ReprRoads
import HandS.MakeKwOnly
import HandS.OwnEq
import HandS.NoneIn
import KE.KEqNest
import KE.KDictLaw
import HandS.Ends
import PyProof.StrLawsRepr
import PyProof.FitsInt
import PySem.Challenge.RW_partialpapers_k90_classes_made_by_hand
set_option Elab.async false
set_option linter.all false
set_option maxRecDepth 100000
set_option maxHeartbeats 4000000
/-! DL1: values, the store, what stands for what; the core of a functional reading. -/
namespace DL
open PySem PySem.Spec PyProof.Rows L2

/-- plain values; lists and instances told here do not change any more; ref: a thing of the store -/
inductive D where
  | non | bl (b : Bool) | int (i : Int) | str (s : Str)
  | tup (xs : List D) | lst (xs : List D) | ob (c : Str) (xs : List D)
  | cst (x : V) | ref (n : Nat) | clo (k : Nat) (xs : List D)
  | scr (ns : List Int)
instance : Inhabited D := ⟨.non⟩

/-- what may change -/
inductive SO where
  | dead
  | lst (xs : List D)
  | dk (kvs : List (Key × D))
  | dt (kvs : List (List Key × D))
  | ins (c : Str) (fs : List (Str × D))
instance : Inhabited SO := ⟨.dead⟩
abbrev Store := List SO

inductive Res (α : Type) where
  | ok (a : α) (st : Store)
  | exc (c : Str) (ds : List D) (st : Store)
  | stuck
abbrev M (α : Type) := Store → Res α
@[reducible] def M.pure {α : Type} (a : α) : M α := fun st => .ok a st
def M.bind {α β : Type} (m : M α) (f : α → M β) : M β := fun st =>
  match m st with
  | .ok a st' => f a st'
  | .exc c ds st' => .exc c ds st'
  | .stuck => .stuck
def M.stuck {α : Type} : M α := fun _ => .stuck
instance : Monad M where
  pure := M.pure
  bind := M.bind
@[simp] theorem pure_eq {α : Type} (a : α) (st : Store) : (pure a : M α) st = .ok a st := rfl
@[simp] theorem mpure_eq {α : Type} (a : α) (st : Store) : (M.pure a : M α) st = .ok a st := rfl
theorem bind_eq {α β : Type} (m : M α) (f : α → M β) (st : Store) : (m >>= f) st = (match m st with | .ok a st' => f a st' | .exc c ds st' => .exc c ds st' | .stuck => .stuck) := rfl
@[simp] theorem stuck_eq {α : Type} (st : Store) : (M.stuck : M α) st = .stuck := rfl

/-- what the module's names and classes are -/
structure Tab where
  K : PySem.W.Frag
  mg : Str → Option Value
  fl : Str → List Str
def Tab.ca (T : Tab) (c : Str) (C : Addr) : Prop := T.mg c = some (.ref C)

/-- where the things of the store stand; pv: what is being made, and not told yet -/
structure Rho where
  ix : List Addr
  pv : Addr → Prop
def Live (ρ : Rho) (st : Store) (a : Addr) : Prop := (∃ (i : Nat) (o : SO), ρ.ix[i]? = some a ∧ st[i]? = some o ∧ o ≠ .dead) ∨ ρ.pv a
abbrev Rho.snoc (ρ : Rho) (p : Addr) : Rho := ⟨ρ.ix ++ [p], ρ.pv⟩

/-- a tuple of the written part -/
def KTup (K : PySem.W.Frag) (a : Addr) (xs : List V) : Prop := ∃ (o : Obj) (its : Array Value) (n : Nat), K.lookup a = some o ∧ o.cls = .type "tuple" ∧ o.data = .seq its n ∧ its.size ≤ sizeLine ∧ Vals xs its.toList
section
variable (T : Tab) (ρ : Rho) (st : Store) (H : Hp)
mutual
def R : D → V → Prop
  | .non, x => x = .non
  | .bl b, x => x = .bl b
  | .int i, x => x = .int i
  | .str s, x => x = .str s
  | .tup ds, x => ∃ a vs, x = .ref a ∧ ((H a = some (.tup vs) ∧ ¬ Live ρ st a) ∨ KTup T.K a vs) ∧ RAll ds vs
  | .lst ds, x => ∃ a vs, x = .ref a ∧ H a = some (.lst vs) ∧ ¬ Live ρ st a ∧ RAll ds vs
  | .ob c ds, x => ∃ a C dx vs, x = .ref a ∧ T.ca c C ∧ H a = some (.ins C dx ((T.fl c).zip vs)) ∧ ¬ Live ρ st a ∧ RAll ds vs
  | .cst y, x => x = y
  | .ref n, x => ∃ a, x = .ref a ∧ ρ.ix[n]? = some a
  | .clo _ _, _ => False
  | .scr ns, x => ∃ a, x = .ref a ∧ ((∃ o, H a = some (.frz o (.lst (ns.map V.int))) ∧ ¬ Live ρ st a) ∨ ∀ H', SqL T.K H' a (ns.map V.int))
def RAll : List D → List V → Prop
  | [], vs => vs = []
  | d :: ds, vs => ∃ x xs, vs = x :: xs ∧ R d x ∧ RAll ds xs
end
def RKV {κ : Type} : List (κ × D) → List (κ × V) → Prop
  | [], vs => vs = []
  | (k, d) :: ds, vs => ∃ x xs, vs = (k, x) :: xs ∧ R T ρ st H d x ∧ RKV ds xs
def RObj : SO → Addr → Prop
  | .dead, _ => True
  | .lst ds, a => ∃ vs, H a = some (.lst vs) ∧ RAll T ρ st H ds vs
  | .dk kvs, a => ∃ vs, H a = some (.dK vs) ∧ RKV T ρ st H kvs vs
  | .dt kvs, a => ∃ vs, H a = some (.dT vs) ∧ RKV T ρ st H kvs vs
  | .ins c fs, a => ∃ C dx vs, T.ca c C ∧ H a = some (.ins C dx vs) ∧ RKV T ρ st H fs vs
/-- the store is held -/
structure Mt : Prop where
  len : ρ.ix.length = st.length
  nd : ρ.ix.Nodup
  trk : ∀ a ∈ ρ.ix, ∃ o, H a = some o
  ptr : ∀ a, ρ.pv a → ∃ o, H a = some o
  dj : ∀ a, ρ.pv a → a ∉ ρ.ix
  obj : ∀ (i : Nat) (a : Addr) (o : SO), ρ.ix[i]? = some a → st[i]? = some o → RObj T ρ st H o a
/-- the slots are held -/
structure EnvOk (δ : List (Option D)) (σ : L2.St) : Prop where
  len : δ.length = σ.length
  get : ∀ (i : Nat) (d : D), δ[i]? = some (some d) → ∃ x, σ[i]? = some (some x) ∧ R T ρ st H d x
end

def Plain (o : HO) : Prop := ∀ ps, o ≠ .tbl ps
/-- from (ρ, st, H) one comes to (ρ', st', H') -/
structure Ext (ρ : Rho) (st : Store) (H : Hp) (ρ' : Rho) (st' : Store) (H' : Hp) : Prop where
  pre : ∀ (n : Nat) (a : Addr), ρ.ix[n]? = some a → ρ'.ix[n]? = some a
  pvs : ∀ a, ρ.pv a → ρ'.pv a
  hid : ∀ a, ρ.pv a → H' a = H a
  live : ∀ a o, H a = some o → Plain o → ¬ Live ρ st a → ¬ Live ρ' st' a
  stay : ∀ a o, H a = some o → Plain o → ¬ Live ρ st a → H' a = some o

section
variable {T : Tab} {ρ ρ1 ρ2 : Rho} {st st1 st2 : Store} {H H1 H2 : Hp}
theorem plain_tup {vs : List V} : Plain (.tup vs) := fun _ z => by cases z
theorem plain_lst {vs : List V} : Plain (.lst vs) := fun _ z => by cases z
theorem plain_ins {C dx : Addr} {fs : List (Str × V)} : Plain (.ins C dx fs) := fun _ z => by cases z
theorem Ext.refl : Ext ρ st H ρ st H := ⟨fun _ _ h => h, fun _ h => h, fun _ _ => rfl, fun _ _ _ _ h => h, fun _ _ h _ _ => h⟩
theorem Ext.trans (a : Ext ρ st H ρ1 st1 H1) (b : Ext ρ1 st1 H1 ρ2 st2 H2) : Ext ρ st H ρ2 st2 H2 :=
  ⟨fun n x h => b.pre n x (a.pre n x h), fun x h => b.pvs x (a.pvs x h), fun x h => (b.hid x (a.pvs x h)).trans (a.hid x h), fun x o h p l => b.live x o (a.stay x o h p l) p (a.live x o h p l),
   fun x o h p l => b.stay x o (a.stay x o h p l) p (a.live x o h p l)⟩
/-- what values ask of a change -/
structure Tr (ρ : Rho) (st : Store) (H : Hp) (ρ' : Rho) (st' : Store) (H' : Hp) : Prop where
  pre : ∀ (n : Nat) (a : Addr), ρ.ix[n]? = some a → ρ'.ix[n]? = some a
  live : ∀ a o, H a = some o → Plain o → ¬ Live ρ st a → ¬ Live ρ' st' a
  stay : ∀ a o, H a = some o → Plain o → ¬ Live ρ st a → H' a = some o
theorem Ext.tr (e : Ext ρ st H ρ1 st1 H1) : Tr ρ st H ρ1 st1 H1 := ⟨e.pre, e.live, e.stay⟩
mutual
theorem R.tr (e : Tr ρ st H ρ1 st1 H1) : ∀ (d : D) (x : V), R T ρ st H d x → R T ρ1 st1 H1 d x
  | .non, x, h => by simpa only [R] using h
  | .bl b, x, h => by simpa only [R] using h
  | .int i, x, h => by simpa only [R] using h
  | .str s, x, h => by simpa only [R] using h
  | .tup ds, x, h => by
    simp only [R] at h ⊢
    obtain ⟨a, vs, e1, h1, h2⟩ := h
    refine ⟨a, vs, e1, ?_, RAll.tr e ds vs h2⟩
    rcases h1 with ⟨k, l⟩ | k
    · exact .inl ⟨e.stay a _ k plain_tup l, e.live a _ k plain_tup l⟩
    · exact .inr k
  | .lst ds, x, h => by
    simp only [R] at h ⊢
    obtain ⟨a, vs, e1, k, l, h2⟩ := h
    exact ⟨a, vs, e1, e.stay a _ k plain_lst l, e.live a _ k plain_lst l, RAll.tr e ds vs h2⟩
  | .ob c ds, x, h => by
    simp only [R] at h ⊢
    obtain ⟨a, C, dx, vs, e1, hc, k, l, h2⟩ := h
    exact ⟨a, C, dx, vs, e1, hc, e.stay a _ k plain_ins l, e.live a _ k plain_ins l, RAll.tr e ds vs h2⟩
  | .cst y, x, h => by simpa only [R] using h
  | .ref n, x, h => by
    simp only [R] at h ⊢
    obtain ⟨a, e1, k⟩ := h
    exact ⟨a, e1, e.pre _ _ k⟩
  | .clo _ _, x, h => by simp only [R] at h
  | .scr ns, x, h => by
    simp only [R] at h ⊢
    obtain ⟨a, e1, h1⟩ := h
    refine ⟨a, e1, ?_⟩
    rcases h1 with ⟨o, k, l⟩ | k
    · exact .inl ⟨o, e.stay a _ k (fun _ z => by cases z) l, e.live a _ k (fun _ z => by cases z) l⟩
    · exact .inr k
theorem RAll.tr (e : Tr ρ st H ρ1 st1 H1) : ∀ (ds : List D) (vs : List V), RAll T ρ st H ds vs → RAll T ρ1 st1 H1 ds vs
  | [], vs, h => by simpa only [RAll] using h
  | d :: ds, vs, h => by
    simp only [RAll] at h ⊢
    obtain ⟨x, xs, e1, h1, h2⟩ := h
    exact ⟨x, xs, e1, R.tr e d x h1, RAll.tr e ds xs h2⟩
end
theorem RKV.tr {κ : Type} (e : Tr ρ st H ρ1 st1 H1) : ∀ (ds : List (κ × D)) (vs : List (κ × V)), RKV T ρ st H ds vs → RKV T ρ1 st1 H1 ds vs
  | [], vs, h => h
  | (k, d) :: ds, vs, h => by
    obtain ⟨x, xs, e1, h1, h2⟩ := h
    exact ⟨x, xs, e1, R.tr e d x h1, RKV.tr e ds xs h2⟩
theorem R.ext (e : Ext ρ st H ρ1 st1 H1) (d : D) (x : V) (h : R T ρ st H d x) : R T ρ1 st1 H1 d x := R.tr e.tr d x h
theorem RAll.ext (e : Ext ρ st H ρ1 st1 H1) (ds : List D) (vs : List V) (h : RAll T ρ st H ds vs) : RAll T ρ1 st1 H1 ds vs := RAll.tr e.tr ds vs h
theorem RKV.ext {κ : Type} (e : Ext ρ st H ρ1 st1 H1) (ds : List (κ × D)) (vs : List (κ × V)) (h : RKV T ρ st H ds vs) : RKV T ρ1 st1 H1 ds vs := RKV.tr e.tr ds vs h
theorem EnvOk.ext {δ : List (Option D)} {σ : L2.St} (h : EnvOk T ρ st H δ σ) (e : Ext ρ st H ρ1 st1 H1) : EnvOk T ρ1 st1 H1 δ σ :=
  ⟨h.len, fun i d k => let ⟨x, k1, k2⟩ := h.get i d k; ⟨x, k1, k2.ext e d x⟩⟩
theorem RAll.length : ∀ {ds : List D} {vs : List V}, RAll T ρ st H ds vs → ds.length = vs.length
  | [], vs, h => by simp only [RAll] at h; rw [h]; rfl
  | d :: ds, vs, h => by
    simp only [RAll] at h
    obtain ⟨x, xs, e1, h1, h2⟩ := h
    rw [e1, List.length_cons, List.length_cons, RAll.length h2]
theorem RAll.nil : RAll T ρ st H [] [] := by simp only [RAll]
theorem RAll.cons {d : D} {x : V} {ds : List D} {vs : List V} (h : R T ρ st H d x) (t : RAll T ρ st H ds vs) : RAll T ρ st H (d :: ds) (x :: vs) := by
  simp only [RAll]
  exact ⟨x, vs, rfl, h, t⟩
theorem RAll.get : ∀ {ds : List D} {vs : List V} {i : Nat} {d : D}, RAll T ρ st H ds vs → ds[i]? = some d → ∃ x, vs[i]? = some x ∧ R T ρ st H d x
  | [], _, i, d, _, e => by simp at e
  | d0 :: ds, vs, 0, d, h, e => by
    simp only [RAll] at h
    obtain ⟨x, xs, e1, h1, h2⟩ := h
    simp at e
    subst e
    exact ⟨x, by rw [e1]; rfl, h1⟩
  | d0 :: ds, vs, i + 1, d, h, e => by
    simp only [RAll] at h
    obtain ⟨x, xs, e1, h1, h2⟩ := h
    obtain ⟨y, h3, h4⟩ := RAll.get (i := i) h2 (by simpa using e)
    exact ⟨y, by rw [e1]; simpa using h3, h4⟩
theorem RAll.append : ∀ {ds es : List D} {vs ws : List V}, RAll T ρ st H ds vs → RAll T ρ st H es ws → RAll T ρ st H (ds ++ es) (vs ++ ws)
  | [], _, vs, _, h, k => by simp only [RAll] at h; rw [h]; exact k
  | d :: ds, es, vs, ws, h, k => by
    simp only [RAll] at h
    obtain ⟨x, xs, e1, h1, h2⟩ := h
    rw [e1]
    exact RAll.cons h1 (RAll.append h2 k)
theorem RAll.take : ∀ {ds : List D} {vs : List V} (n : Nat), RAll T ρ st H ds vs → RAll T ρ st H (ds.take n) (vs.take n)
  | [], vs, n, h => by simp only [RAll] at h; rw [h]; simp [RAll]
  | d :: ds, vs, 0, h => by simp [RAll]
  | d :: ds, vs, n + 1, h => by
    simp only [RAll] at h
    obtain ⟨x, xs, e1, h1, h2⟩ := h
    rw [e1]
    exact RAll.cons h1 (RAll.take n h2)
theorem RAll.drop : ∀ {ds : List D} {vs : List V} (n : Nat), RAll T ρ st H ds vs → RAll T ρ st H (ds.drop n) (vs.drop n)
  | [], vs, n, h => by simp only [RAll] at h; rw [h]; simp [RAll]
  | d :: ds, vs, 0, h => h
  | d :: ds, vs, n + 1, h => by
    simp only [RAll] at h
    obtain ⟨x, xs, e1, h1, h2⟩ := h
    rw [e1]
    exact RAll.drop n h2
theorem R.int_of {i : Int} {x : V} (h : R T ρ st H (.int i) x) : x = .int i := by simpa only [R] using h
theorem R.bl_of {i : Bool} {x : V} (h : R T ρ st H (.bl i) x) : x = .bl i := by simpa only [R] using h
theorem R.str_of {i : Str} {x : V} (h : R T ρ st H (.str i) x) : x = .str i := by simpa only [R] using h
theorem R.non_of {x : V} (h : R T ρ st H .non x) : x = .non := by simpa only [R] using h
theorem R.int {i : Int} : R T ρ st H (.int i) (.int i) := by simp only [R]
theorem R.bl {i : Bool} : R T ρ st H (.bl i) (.bl i) := by simp only [R]
theorem R.str {i : Str} : R T ρ st H (.str i) (.str i) := by simp only [R]
theorem R.non : R T ρ st H .non .non := by simp only [R]
/-- a live thing is tracked -/
theorem Mt.nin (m : Mt T ρ st H) {a : Addr} (h : H a = none) : a ∉ ρ.ix := fun k => by
  obtain ⟨o, q⟩ := m.trk a k
  rw [h] at q
  cases q
theorem Mt.live (m : Mt T ρ st H) {a : Addr} (l : Live ρ st a) : ∃ o, H a = some o := by
  rcases l with ⟨i, o, h1, h2, h3⟩ | l
  case inr => exact m.ptr a l
  have q := m.obj i a o h1 h2
  cases o with
  | dead => exact absurd rfl h3
  | lst ds => obtain ⟨vs, q, _⟩ := q; exact ⟨_, q⟩
  | dk ds => obtain ⟨vs, q, _⟩ := q; exact ⟨_, q⟩
  | dt ds => obtain ⟨vs, q, _⟩ := q; exact ⟨_, q⟩
  | ins c ds => obtain ⟨_, _, vs, _, q, _⟩ := q; exact ⟨_, q⟩
theorem Mt.notLive (m : Mt T ρ st H) {a : Addr} (h : H a = none) : ¬ Live ρ st a := fun l => by
  obtain ⟨o, q⟩ := m.live l
  rw [h] at q
  cases q
theorem RObj.ext (e : Ext ρ st H ρ1 st1 H1) {o : SO} {a : Addr} (h : RObj T ρ st H o a) (k : H1 a = H a) : RObj T ρ1 st1 H1 o a := by
  cases o with
  | dead => trivial
  | lst ds => obtain ⟨vs, q, r⟩ := h; exact ⟨vs, by rw [k]; exact q, r.ext e _ _⟩
  | dk ds => obtain ⟨vs, q, r⟩ := h; exact ⟨vs, by rw [k]; exact q, r.ext e _ _⟩
  | dt ds => obtain ⟨vs, q, r⟩ := h; exact ⟨vs, by rw [k]; exact q, r.ext e _ _⟩
  | ins c ds => obtain ⟨C, dx, vs, c1, q, r⟩ := h; exact ⟨C, dx, vs, c1, by rw [k]; exact q, r.ext e _ _⟩
/-- a new tracked object beside the store -/
theorem Mt.pne (m : Mt T ρ st H) {p a : Addr} (h : H p = none) (l : ρ.pv a) : a ≠ p := by
  obtain ⟨o, q⟩ := m.ptr a l
  exact ne_of_none q h
theorem Ext.new {p : Addr} {o : HO} (m : Mt T ρ st H) (h : H p = none) : Ext ρ st H ρ st (upd H p o) :=
  ⟨fun _ _ h => h, fun _ h => h, fun a l => upd_ne (m.pne h l), fun _ _ _ _ l => l, fun a u e _ _ => by rw [upd_ne (ne_of_none e h)]; exact e⟩
theorem Mt.new {p : Addr} {o : HO} (m : Mt T ρ st H) (h : H p = none) : Mt T ρ st (upd H p o) :=
by
  refine ⟨m.len, m.nd, fun a ha => ?_, fun a ha => ?_, m.dj, fun i a so h1 h2 => ?_⟩
  · obtain ⟨u, q⟩ := m.trk a ha
    exact ⟨u, by rw [upd_ne (ne_of_none q h)]; exact q⟩
  · obtain ⟨u, q⟩ := m.ptr a ha
    exact ⟨u, by rw [upd_ne (ne_of_none q h)]; exact q⟩
  · by_cases hd : so = .dead
    · subst hd
      trivial
    · obtain ⟨u, q⟩ := m.live (.inl ⟨i, so, h1, h2, hd⟩)
      exact (m.obj i a so h1 h2).ext (Ext.new m h) (upd_ne (ne_of_none q h))
/-- a new object enters the store -/
theorem Live.snoc {p a : Addr} {o : SO} (hl : ρ.ix.length = st.length) (l : Live (ρ.snoc p) (st ++ [o]) a) : Live ρ st a ∨ a = p := by
  rcases l with ⟨i, u, h1, h2, h3⟩ | l
  case inr => exact .inl (.inr l)
  simp only [Rho.snoc] at h1
  by_cases hi : i < ρ.ix.length
  · rw [List.getElem?_append_left hi] at h1
    rw [List.getElem?_append_left (by omega)] at h2
    exact .inl (.inl ⟨i, u, h1, h2, h3⟩)
  · rw [List.getElem?_append_right (by omega)] at h1
    right
    have h4 := List.mem_of_getElem? h1
    simpa using h4
theorem Ext.push {p : Addr} {u : HO} {o : SO} (m : Mt T ρ st H) (h : H p = none) : Ext ρ st H (ρ.snoc p) (st ++ [o]) (upd H p u) :=
by
  refine ⟨fun n a k => ?_, fun _ h => h, fun a l => upd_ne (m.pne h l), fun a w e _ l z => ?_, fun a w e _ _ => ?_⟩
  · simp only [Rho.snoc]
    rw [List.getElem?_append_left (List.getElem?_eq_some_iff.mp k).1]
    exact k
  · rcases Live.snoc m.len z with z | z
    · exact l z
    · rw [z, h] at e
      cases e
  · rw [upd_ne (ne_of_none e h)]
    exact e
theorem Mt.push {p : Addr} {u : HO} {o : SO} (m : Mt T ρ st H) (h : H p = none) (ho : RObj T (ρ.snoc p) (st ++ [o]) (upd H p u) o p) : Mt T (ρ.snoc p) (st ++ [o]) (upd H p u) := by
  have hp := m.nin h
  refine ⟨by simp [Rho.snoc, m.len], ?_, fun a ha => ?_, fun a ha => ?_, fun a ha z => ?_, fun i a so h1 h2 => ?_⟩
  · simp only [Rho.snoc]
    rw [List.nodup_append]
    refine ⟨m.nd, by simp, fun a ha b hb => ?_⟩
    have e : b = p := by simpa using hb
    intro z
    rw [z, e] at ha
    exact hp ha
  · rcases List.mem_append.mp ha with z | z
    · obtain ⟨w, q⟩ := m.trk a z
      exact ⟨w, by rw [upd_ne (ne_of_none q h)]; exact q⟩
    · have e : a = p := by simpa using z
      subst e
      exact ⟨u, upd_same⟩
  · obtain ⟨w, q⟩ := m.ptr a ha
    exact ⟨w, by rw [upd_ne (ne_of_none q h)]; exact q⟩
  · rcases List.mem_append.mp z with z | z
    · exact m.dj a ha z
    · exact m.pne h ha (by simpa using z)
  · simp only [Rho.snoc] at h1
    by_cases hi : i < ρ.ix.length
    · rw [List.getElem?_append_left hi] at h1
      rw [List.getElem?_append_left (by have := m.len; omega)] at h2
      by_cases hd : so = .dead
      · subst hd
        trivial
      · obtain ⟨w, q⟩ := m.live (.inl ⟨i, so, h1, h2, hd⟩)
        exact (m.obj i a so h1 h2).ext (Ext.push m h) (upd_ne (ne_of_none q h))
    · rw [List.getElem?_append_right (by omega)] at h1
      rw [List.getElem?_append_right (by have := m.len; omega)] at h2
      have e1 : a = p := by simpa using List.mem_of_getElem? h1
      have e2 : so = o := by simpa using List.mem_of_getElem? h2
      subst e1
      subst e2
      exact ho
end
end DL
/-! DL2: readings by functions; expressions. -/
namespace DL
open PySem PySem.Spec PyProof.Rows L2

section
variable {α β : Type} (T : Tab) (ρ : Rho) (st : Store) (H : Hp) (σ : L2.St) (Wx : WX)
/-- what is wanted of a result -/
def Post (P : α → Rho → Store → Hp → Prop) : Res α → Prop
  | .ok v st' => ∀ ρ' H', Ext ρ st H ρ' st' H' → Mt T ρ' st' H' → P v ρ' st' H'
  | .exc c ds st' => ∀ ρ' H' (C d : Addr) (vs : List V), Ext ρ st H ρ' st' H' → Mt T ρ' st' H' → T.ca c C → H' d = some (.xd ((T.fl c).zip vs)) → ¬ Live ρ' st' d → RAll T ρ' st' H' ds vs → Wx (.ref C) (some d) σ H'
  | .stuck => False
end
section
variable {α β : Type} {T : Tab} {ρ ρ1 : Rho} {st st1 : Store} {H H1 : Hp} {σ : L2.St} {Wx : WX} {P P' : α → Rho → Store → Hp → Prop} {P2 : β → Rho → Store → Hp → Prop}
theorem Post.mono {r : Res α} (h : Post T ρ st H σ Wx P r) (i : ∀ v ρ' st' H', P v ρ' st' H' → P' v ρ' st' H') : Post T ρ st H σ Wx P' r := by
  cases r with
  | ok v st' => exact fun ρ' H' e m => i _ _ _ _ (h ρ' H' e m)
  | exc c ds st' => exact h
  | stuck => exact h
theorem Post.monoE {r : Res α} (h : Post T ρ st H σ Wx P r) (i : ∀ v ρ' st' H', Ext ρ st H ρ' st' H' → Mt T ρ' st' H' → P v ρ' st' H' → P' v ρ' st' H') : Post T ρ st H σ Wx P' r := by
  cases r with
  | ok v st' => exact fun ρ' H' e m => i _ _ _ _ e m (h ρ' H' e m)
  | exc c ds st' => exact h
  | stuck => exact h
theorem Post.ext {r : Res α} (h : Post T ρ st H σ Wx P r) (e : Ext ρ st H ρ1 st1 H1) : Post T ρ1 st1 H1 σ Wx P r := by
  cases r with
  | ok v st' => exact fun ρ' H' e' m => h ρ' H' (e.trans e') m
  | exc c ds st' => exact fun ρ' H' C d vs e' => h ρ' H' C d vs (e.trans e')
  | stuck => exact h
theorem Post.bind {m : M α} {f : α → M β} (h : Post T ρ st H σ Wx P2 ((m >>= f) st)) : Post T ρ st H σ Wx (fun v ρ1 st1 H1 => Post T ρ1 st1 H1 σ Wx P2 (f v st1)) (m st) := by
  rw [bind_eq] at h
  cases q : m st with
  | ok v st' =>
    rw [q] at h
    exact fun ρ' H' e _ => h.ext e
  | exc c ds st' =>
    rw [q] at h
    exact h
  | stuck =>
    rw [q] at h
    exact h
end

/-- the module's names as a table -/
abbrev XT (X : Cx) (fl : Str → List Str) : Tab := ⟨X.K, X.mg, fl⟩
abbrev DEnv := List (Option D)
abbrev EM := DEnv → M D
abbrev AM := DEnv → M (List D)
abbrev TM := DEnv → M Bool
inductive Fl where
  | next | ret (d : D) | brk | cont
abbrev SM := DEnv → M (Fl × DEnv)

section
variable (T : Tab) (Wx : WX)
/-- what is, at slots σ and heap H -/
def At (σ : L2.St) (H : Hp) (k : Rho → DEnv → Store → Prop) : Prop := ∃ ρ δ st, Mt T ρ st H ∧ EnvOk T ρ st H δ σ ∧ k ρ δ st
def tD (m : EM) : TE := fun σ H Q => At T σ H fun ρ δ st => Post T ρ st H σ Wx (fun v ρ' st' H' => ∀ x, R T ρ' st' H' v x → Q x H') (m δ st)
def tDA (m : AM) : TA := fun σ H Q => At T σ H fun ρ δ st => Post T ρ st H σ Wx (fun v ρ' st' H' => ∀ x, RAll T ρ' st' H' v x → Q x H') (m δ st)
def tDT (m : TM) : TT := fun σ H Q => At T σ H fun ρ δ st => Post T ρ st H σ Wx (fun v ρ' st' H' => Q v H') (m δ st)
def FlP (D : Ends) (v : Fl × DEnv) (ρ' : Rho) (st' : Store) (H' : Hp) : Prop :=
  match v.1 with
  | .next => ∀ σ', EnvOk T ρ' st' H' v.2 σ' → D.nx σ' H'
  | .ret d => ∀ x, R T ρ' st' H' d x → D.rt x H'
  | .brk => ∀ σ', EnvOk T ρ' st' H' v.2 σ' → D.bk σ' H'
  | .cont => ∀ σ', EnvOk T ρ' st' H' v.2 σ' → D.ct σ' H'
end
/-- an exception's wish at any slots of the frame: what is wanted must not hang on slots that the statement may have changed -/
def tDS (T : Tab) (Wx : XK) (m : SM) : TS := fun D σ H => At T σ H fun ρ δ st => Post T ρ st H σ (fun c d _ H => Wx c d H) (FlP T D) (m δ st)
abbrev wx (Wx : XK) : WX := fun c d _ H => Wx c d H

theorem pe_imp {X : Cx} {e : Expr} {t t' : TE} (h : PE X e t) (i : ∀ σ H Q, t' σ H Q → t σ H Q) : PE X e t' := ⟨fun pins s σ H Q I q => h.run pins s σ H Q I (i σ H Q q)⟩
theorem pa_imp {X : Cx} {e : List Expr} {t t' : TA} (h : PA X e t) (i : ∀ σ H Q, t' σ H Q → t σ H Q) : PA X e t' := ⟨fun pos pins s σ H Q I q => h.run pos pins s σ H Q I (i σ H Q q)⟩
theorem pt_imp {X : Cx} {e : Expr} {t t' : TT} (h : PT X e t) (i : ∀ σ H Q, t' σ H Q → t σ H Q) : PT X e t' := ⟨fun pins s σ H Q I q => h.run pins s σ H Q I (i σ H Q q)⟩
theorem pw_imp {X : Cx} {e : Expr} {t t' : TT} (h : PW X e t) (i : ∀ σ H Q, t' σ H Q → t σ H Q) : PW X e t' := ⟨fun wh pins s σ H Q I q => h.run wh pins s σ H Q I (i σ H Q q)⟩
theorem ps_imp {X : Cx} {e : Stmt} {t t' : TS} (h : PS X e t) (i : ∀ D σ H, t' D σ H → t D σ H) : PS X e t' := ⟨fun pins s σ H Q I q => h.run pins s σ H Q I (i Q σ H q)⟩
theorem pss_imp {X : Cx} {e : List Stmt} {t t' : TS} (h : PSs X e t) (i : ∀ D σ H, t' D σ H → t D σ H) : PSs X e t' := ⟨fun pins s σ H Q I q => h.run pins s σ H Q I (i Q σ H q)⟩

/-! ### expressions -/
def lift (o : Option D) : M D := fun st => match o with | some v => .ok v st | none => .stuck
@[simp] theorem lift_some (v : D) (st : Store) : lift (some v) st = .ok v st := rfl
@[simp] theorem lift_none (st : Store) : lift none st = .stuck := rfl
def eVar (i : Nat) : EM := fun δ => lift (δ[i]?).join
def eC (d : D) : EM := fun _ => pure d
def e1 (f : Store → D → Option D) (a : EM) : EM := fun δ => a δ >>= fun x st => lift (f st x) st
def e2 (f : Store → D → D → Option D) (a b : EM) : EM := fun δ => a δ >>= fun x => b δ >>= fun y st => lift (f st x y) st
def eN (f : Store → List D → Option D) (a : AM) : EM := fun δ => a δ >>= fun x st => lift (f st x) st
def aNil : AM := fun _ => pure []
def aCons (a : EM) (r : AM) : AM := fun δ => a δ >>= fun x => r δ >>= fun xs => pure (x :: xs)
def eTup (a : AM) : EM := fun δ => a δ >>= fun xs => if xs.length ≤ sizeLine then pure (.tup xs) else M.stuck
def eLst (a : AM) : EM := fun δ => a δ >>= fun xs => if xs.length ≤ sizeLine then pure (.lst xs) else M.stuck
/-- a list of the store -/
def eNew (a : AM) : EM := fun δ => a δ >>= fun xs st => if xs.length ≤ sizeLine then .ok (.ref st.length) (st ++ [.lst xs]) else .stuck
def eIf (t : TM) (a b : EM) : EM := fun δ => t δ >>= fun c => if c = true then a δ else b δ

theorem Post.lift_inv {T : Tab} {ρ : Rho} {st : Store} {H : Hp} {σ : L2.St} {Wx : WX} {P : D → Rho → Store → Hp → Prop} {o : Option D} (h : Post T ρ st H σ Wx P (lift o st)) :
    ∃ v, o = some v ∧ ∀ ρ' H', Ext ρ st H ρ' st H' → Mt T ρ' st H' → P v ρ' st H' := by
  cases o with
  | none => exact False.elim h
  | some v => exact ⟨v, rfl, h⟩

section
variable {X : Cx} {fl : Str → List Str} {Wx : WX} {e a b : Expr} {es : List Expr} {ma mb : EM} {mA : AM} {pos : Pos}
abbrev DE (X : Cx) (fl : Str → List Str) (Wx : WX) (e : Expr) (m : EM) : Prop := PE X e (tD (XT X fl) Wx m)
abbrev DA (X : Cx) (fl : Str → List Str) (Wx : WX) (es : List Expr) (m : AM) : Prop := PA X es (tDA (XT X fl) Wx m)
abbrev DT (X : Cx) (fl : Str → List Str) (Wx : WX) (e : Expr) (m : TM) : Prop := PT X e (tDT (XT X fl) Wx m)

/-- a one-place rule by values -/
def V1 (T : Tab) (r : V → Hp → VK → Prop) (f : Store → D → Option D) : Prop :=
  ∀ ρ st H d x v Q, Mt T ρ st H → R T ρ st H d x → f st d = some v → (∀ H' z, Ext ρ st H ρ st H' → Mt T ρ st H' → R T ρ st H' v z → Q z H') → r x H Q
def V2 (T : Tab) (r : V → V → Hp → VK → Prop) (f : Store → D → D → Option D) : Prop :=
  ∀ ρ st H d d' x y v Q, Mt T ρ st H → R T ρ st H d x → R T ρ st H d' y → f st d d' = some v → (∀ H' z, Ext ρ st H ρ st H' → Mt T ρ st H' → R T ρ st H' v z → Q z H') → r x y H Q
def VN (T : Tab) (r : List V → Hp → VK → Prop) (f : Store → List D → Option D) : Prop :=
  ∀ ρ st H ds xs v Q, Mt T ρ st H → RAll T ρ st H ds xs → f st ds = some v → (∀ H' z, Ext ρ st H ρ st H' → Mt T ρ st H' → R T ρ st H' v z → Q z H') → r xs H Q

theorem de_var {i : Nat} {x : Str} (hN : X.N[i]? = some x) (hv : Vis X.env.scope x) (hd : (x == ("__debug__" : Str)) = false := by decide) (hcd : (x == ("__classdict__" : Str)) = false := by decide) : DE X fl Wx (.Name x pos) (eVar i) := by
  refine pe_imp (pe_var hN hv hd hcd) fun σ H Q ⟨ρ, δ, st, m, en, h⟩ => ?_
  obtain ⟨d, e, h⟩ := Post.lift_inv h
  have e' : δ[i]? = some (some d) := by
    cases q : δ[i]? with
    | none => rw [q] at e; cases e
    | some o => rw [q] at e; exact congrArg some e
  obtain ⟨y, hy, r⟩ := en.get i d e'
  exact ⟨y, hy, h ρ H .refl m y r⟩
theorem de_c {d : D} {v : V} (h : PE X e (tC v)) (r : ∀ ρ st H, R (XT X fl) ρ st H d v) : DE X fl Wx e (eC d) := by
  refine pe_imp h fun σ H Q ⟨ρ, δ, st, m, en, h⟩ => ?_
  exact h ρ H .refl m v (r ρ st H)
theorem de_int {i j} : DE X fl Wx (.Constant (.int i) j pos) (eC (.int i)) := de_c pe_int fun _ _ _ => R.int
theorem de_bl {i j} : DE X fl Wx (.Constant (.bool i) j pos) (eC (.bl i)) := de_c pe_bl fun _ _ _ => R.bl
theorem de_str {i j} : DE X fl Wx (.Constant (.str i) j pos) (eC (.str i)) := de_c pe_str fun _ _ _ => R.str
theorem de_non {j} : DE X fl Wx (.Constant .none j pos) (eC .non) := de_c pe_non fun _ _ _ => R.non
/-- a class or def of the module as a value -/
theorem de_glob {x : Str} {v : V} {u : Value} (hg : Gl X x) (hm : X.mg x = some u) (r : RelV v u) (hd : (x == ("__debug__" : Str)) = false := by decide) : DE X fl Wx (.Name x pos) (eC (.cst v)) :=
  de_c (pe_glob hg hm r hd) fun _ _ _ => by simp only [R]
theorem de_bltn {x : Str} {v : V} {u : Value} (hg : Gl X x) (hm : X.mg x = none) (hv : bootBuiltins x = some u) (r : RelV v u) (hn : x ≠ "__name__" := by decide) (hd : (x == ("__debug__" : Str)) = false := by decide) : DE X fl Wx (.Name x pos) (eC (.cst v)) :=
  de_c (pe_bltn hg hm hv r hn hd) fun _ _ _ => by simp only [R]

theorem go1 {r : V → Hp → VK → Prop} {f : Store → D → Option D} (hv : V1 (XT X fl) r f) {σ : L2.St} {H : Hp} {Q : VK} (h : tD (XT X fl) Wx (e1 f ma) σ H Q) : tD (XT X fl) Wx ma σ H fun x H1 => r x H1 Q := by
  obtain ⟨ρ, δ, st, m, en, h⟩ := h
  refine ⟨ρ, δ, st, m, en, (Post.bind h).monoE fun d ρ1 st1 H1 e1 m1 h1 x rx => ?_⟩
  obtain ⟨v, ev, h2⟩ := Post.lift_inv h1
  exact hv ρ1 st1 H1 d x v Q m1 rx ev fun H' z e' m' rz => h2 ρ1 H' e' m' z rz
theorem go2 {r : V → V → Hp → VK → Prop} {f : Store → D → D → Option D} (hv : V2 (XT X fl) r f) {σ : L2.St} {H : Hp} {Q : VK} (h : tD (XT X fl) Wx (e2 f ma mb) σ H Q) : tD (XT X fl) Wx ma σ H fun x H1 => tD (XT X fl) Wx mb σ H1 fun y H2 => r x y H2 Q := by
  obtain ⟨ρ, δ, st, m, en, h⟩ := h
  refine ⟨ρ, δ, st, m, en, (Post.bind h).monoE fun d ρ1 st1 H1 e1 m1 h1 x rx => ?_⟩
  refine ⟨ρ1, δ, st1, m1, en.ext e1, (Post.bind h1).monoE fun d' ρ2 st2 H2 e2 m2 h2 y ry => ?_⟩
  obtain ⟨v, ev, h3⟩ := Post.lift_inv h2
  exact hv ρ2 st2 H2 d d' x y v Q m2 (rx.ext e2 _ _) ry ev fun H' z e' m' rz => h3 ρ2 H' e' m' z rz
theorem goN {r : List V → Hp → VK → Prop} {f : Store → List D → Option D} (hv : VN (XT X fl) r f) {σ : L2.St} {H : Hp} {Q : VK} (h : tD (XT X fl) Wx (eN f mA) σ H Q) : tDA (XT X fl) Wx mA σ H fun x H1 => r x H1 Q := by
  obtain ⟨ρ, δ, st, m, en, h⟩ := h
  refine ⟨ρ, δ, st, m, en, (Post.bind h).monoE fun d ρ1 st1 H1 e1 m1 h1 x rx => ?_⟩
  obtain ⟨v, ev, h2⟩ := Post.lift_inv h1
  exact hv ρ1 st1 H1 d x v Q m1 rx ev fun H' z e' m' rz => h2 ρ1 H' e' m' z rz

theorem de_op {op : Operator} {r : R2} {f : Store → D → D → Option D} (ho : OpR X (binaryOp op) r) (hv : V2 (XT X fl) r f) (ha : DE X fl Wx a ma) (hb : DE X fl Wx b mb) : DE X fl Wx (.BinOp a op b pos) (e2 f ma mb) :=
  pe_imp (pe_op ho ha hb) fun _ _ _ h => go2 hv h
theorem de_un {op : UnaryOp} {r : V → Hp → VK → Prop} {f : Store → D → Option D} (ho : UnR X (unaryOp op) r) (hv : V1 (XT X fl) r f) (ha : DE X fl Wx a ma) : DE X fl Wx (.UnaryOp op a pos) (e1 f ma) :=
  pe_imp (pe_un ho ha) fun _ _ _ h => go1 hv h
theorem de_cmp {op : CmpOp} {r : R2} {f : Store → D → D → Option D} (ho : OpR X (compareOp op) r) (hv : V2 (XT X fl) r f) (ha : DE X fl Wx a ma) (hb : DE X fl Wx b mb) (hm : behindInMarks op b = false) : DE X fl Wx (.Compare a [op] [b] pos) (e2 f ma mb) :=
  pe_imp (pe_cmpR ho ha hb hm) fun _ _ _ h => go2 hv h
theorem da_nil : DA X fl Wx [] aNil := by
  refine pa_imp pa_nil fun σ H Q ⟨ρ, δ, st, m, en, h⟩ => ?_
  exact h ρ H .refl m [] RAll.nil
theorem da_cons (ha : DE X fl Wx e ma) (hr : DA X fl Wx es mA) (hs : starEach (e :: es) X.env = (false, eval e X.env) :: starEach es X.env := by rfl) : DA X fl Wx (e :: es) (aCons ma mA) := by
  refine pa_imp (pa_cons ha hr hs) fun σ H Q ⟨ρ, δ, st, m, en, h⟩ => ?_
  refine ⟨ρ, δ, st, m, en, (Post.bind h).monoE fun d ρ1 st1 H1 e1 m1 h1 x rx => ?_⟩
  refine ⟨ρ1, δ, st1, m1, en.ext e1, (Post.bind h1).monoE fun ds ρ2 st2 H2 e2 m2 h2 xs rxs => ?_⟩
  exact h2 ρ2 H2 .refl m2 (x :: xs) (.cons (rx.ext e2 _ _) rxs)
theorem de_tup {k} (h : DA X fl Wx es mA) : DE X fl Wx (.Tuple es k pos) (eTup mA) := by
  refine pe_imp (pe_tup h) fun σ H Q ⟨ρ, δ, st, m, en, h⟩ => ?_
  refine ⟨ρ, δ, st, m, en, (Post.bind h).monoE fun ds ρ1 st1 H1 e1 m1 h1 xs rxs => ?_⟩
  by_cases hl : ds.length ≤ sizeLine
  · rw [if_pos hl] at h1
    refine ⟨by rw [← rxs.length]; exact hl, fun p hp => ?_⟩
    have e := Ext.new (ρ := ρ1) (st := st1) (o := .tup xs) m1 hp
    refine h1 ρ1 _ e (m1.new hp) (.ref p) ?_
    simp only [R]
    exact ⟨p, xs, rfl, .inl ⟨upd_same, m1.notLive hp⟩, rxs.ext e _ _⟩
  · rw [if_neg hl] at h1
    exact False.elim h1
theorem de_lst (h : DA X fl Wx es mA) : DE X fl Wx (.List es pos) (eLst mA) := by
  refine pe_imp (pe_lst h) fun σ H Q ⟨ρ, δ, st, m, en, h⟩ => ?_
  refine ⟨ρ, δ, st, m, en, (Post.bind h).monoE fun ds ρ1 st1 H1 e1 m1 h1 xs rxs => ?_⟩
  by_cases hl : ds.length ≤ sizeLine
  · rw [if_pos hl] at h1
    refine ⟨by rw [← rxs.length]; exact hl, fun p hp => ?_⟩
    have e := Ext.new (ρ := ρ1) (st := st1) (o := .lst xs) m1 hp
    refine h1 ρ1 _ e (m1.new hp) (.ref p) ?_
    simp only [R]
    exact ⟨p, xs, rfl, upd_same, m1.notLive hp, rxs.ext e _ _⟩
  · rw [if_neg hl] at h1
    exact False.elim h1
theorem push_last {ρ : Rho} {st : Store} {a : Addr} (h : ρ.ix.length = st.length) : (ρ.snoc a).ix[st.length]? = some a := by
  simp only [Rho.snoc]
  rw [List.getElem?_append_right (by omega), h]
  simp
theorem de_new (h : DA X fl Wx es mA) : DE X fl Wx (.List es pos) (eNew mA) := by
  refine pe_imp (pe_lst h) fun σ H Q ⟨ρ, δ, st, m, en, h⟩ => ?_
  refine ⟨ρ, δ, st, m, en, (Post.bind h).monoE fun ds ρ1 st1 H1 e1 m1 h1 xs rxs => ?_⟩
  by_cases hl : ds.length ≤ sizeLine
  · rw [if_pos hl] at h1
    refine ⟨by rw [← rxs.length]; exact hl, fun p hp => ?_⟩
    have e := Ext.push (u := .lst xs) (o := .lst ds) m1 hp
    refine h1 (ρ1.snoc p) _ e (m1.push hp ⟨xs, upd_same, rxs.ext e _ _⟩) (.ref p) ?_
    simp only [R]
    exact ⟨p, rfl, push_last m1.len⟩
  · rw [if_neg hl] at h1
    exact False.elim h1
theorem de_if {c : Expr} {mt : TM} (hc : DT X fl Wx c mt) (ha : DE X fl Wx a ma) (hb : DE X fl Wx b mb) : DE X fl Wx (.IfExp c a b pos) (eIf mt ma mb) := by
  refine pe_imp (pe_ifExp hc ha hb) fun σ H Q ⟨ρ, δ, st, m, en, h⟩ => ?_
  refine ⟨ρ, δ, st, m, en, (Post.bind h).monoE fun c ρ1 st1 H1 e1 m1 h1 => ?_⟩
  cases c with
  | true => exact ⟨ρ1, δ, st1, m1, en.ext e1, h1⟩
  | false => exact ⟨ρ1, δ, st1, m1, en.ext e1, h1⟩
end
end DL
/-! DL3: tests, statements. -/
namespace DL
open PySem PySem.Spec PyProof.Rows L2

/-! ### tests -/
def asBool : D → M Bool
  | .bl b => pure b
  | _ => M.stuck
@[simp] theorem asBool_bl (b : Bool) (st : Store) : asBool (.bl b) st = .ok b st := rfl
def tOf (m : EM) : TM := fun δ => m δ >>= asBool
def tAndM (a b : TM) : TM := fun δ => a δ >>= fun c => if c = true then b δ else pure false
def tOrM (a b : TM) : TM := fun δ => a δ >>= fun c => if c = true then pure true else b δ
def tNotM (a : TM) : TM := fun δ => a δ >>= fun c => pure (!c)
def truthD (st : Store) : D → Option Bool
  | .non => some false
  | .bl b => some b
  | .int i => some (i != 0)
  | .str s => if s.length ≤ sizeLine then some ((s.length : Int) != 0) else none
  | .tup xs => some !xs.isEmpty
  | .lst xs => some !xs.isEmpty
  | .ref n => match st[n]? with
    | some (.lst xs) => some !xs.isEmpty
    | some (.dk xs) => some !xs.isEmpty
    | _ => none
  | _ => none
def liftB (o : Option Bool) : M Bool := fun st => match o with | some v => .ok v st | none => .stuck
@[simp] theorem liftB_some (v : Bool) (st : Store) : liftB (some v) st = .ok v st := rfl
def tTru (m : EM) : TM := fun δ => m δ >>= fun d st => liftB (truthD st d) st
/-- values that are bools -/
def eAnd (a b : EM) : EM := fun δ => a δ >>= fun d => asBool d >>= fun c => if c = true then b δ else pure (.bl false)
def eOr (a b : EM) : EM := fun δ => a δ >>= fun d => asBool d >>= fun c => if c = true then pure (.bl true) else b δ
def eNot (a : EM) : EM := fun δ => a δ >>= fun d => asBool d >>= fun c => pure (.bl !c)

section
variable {T : Tab} {ρ : Rho} {st : Store} {H : Hp} {σ : L2.St} {Wx : WX}
theorem Post.asBool_inv {P : Bool → Rho → Store → Hp → Prop} {d : D} (h : Post T ρ st H σ Wx P (asBool d st)) : ∃ b, d = .bl b ∧ ∀ ρ' H', Ext ρ st H ρ' st H' → Mt T ρ' st H' → P b ρ' st H' := by
  cases d with
  | bl b => exact ⟨b, rfl, h⟩
  | _ => exact False.elim h
theorem Post.asBool_bind {β : Type} {P : β → Rho → Store → Hp → Prop} {d : D} {f : Bool → M β} (h : Post T ρ st H σ Wx P ((asBool d >>= f) st)) : ∃ b, d = .bl b ∧ Post T ρ st H σ Wx P (f b st) := by
  cases d with
  | bl b => exact ⟨b, rfl, h⟩
  | _ => exact False.elim h
theorem bind_assoc' {α β γ : Type} (m : M α) (f : α → M β) (g : β → M γ) : m >>= f >>= g = m >>= fun x => f x >>= g := by
  funext st
  rw [bind_eq, bind_eq, bind_eq]
  cases m st with
  | ok a s => rfl
  | exc c d s => rfl
  | stuck => rfl
end

section
variable {X : Cx} {fl : Str → List Str} {Wx : WX} {e a b : Expr} {es rest : List Expr} {ma mb : EM} {mt mu : TM} {mA : AM} {pos : Pos}
abbrev DW (X : Cx) (fl : Str → List Str) (Wx : WX) (e : Expr) (m : TM) : Prop := PW X e (tDT (XT X fl) Wx m)
theorem go_bool {σ : L2.St} {H : Hp} {Q : Bool → Hp → Prop} (h : tDT (XT X fl) Wx (tOf ma) σ H Q) : tD (XT X fl) Wx ma σ H fun x H1 => ∃ k, x = .bl k ∧ Q k H1 := by
  obtain ⟨ρ, δ, st, m, en, h⟩ := h
  refine ⟨ρ, δ, st, m, en, (Post.bind h).monoE fun d ρ1 st1 H1 e1 m1 h1 x rx => ?_⟩
  obtain ⟨b, e, h2⟩ := Post.asBool_inv h1
  subst e
  exact ⟨b, R.bl_of rx, h2 ρ1 H1 .refl m1⟩
theorem dt_val (h : DE X fl Wx e ma) (he : ∀ whole, isTrue e X.env whole = (do let v ← whole; standAt e.pos; holding [v] (truthy v)) := by intro _; rfl) : DT X fl Wx e (tOf ma) :=
  pt_imp (pt_val h he) fun _ _ _ h => go_bool h
theorem dt_cmp {op : CmpOp} {r : R2} {f : Store → D → D → Option D} (ho : OpR X (compareOp op) r) (hv : V2 (XT X fl) r f) (ha : DE X fl Wx a ma) (hb : DE X fl Wx b mb) (hm : behindInMarks op b = false) : DT X fl Wx (.Compare a [op] [b] pos) (tOf (e2 f ma mb)) := by
  refine pt_imp (pt_cmpR ho ha hb hm) fun σ H Q h => ?_
  obtain ⟨ρ, δ, st, m, en, h⟩ := h
  unfold tOf at h
  refine go2 (Wx := Wx) hv ⟨ρ, δ, st, m, en, (Post.bind h).monoE fun d ρ1 st1 H1 e1 m1 h1 x rx => ?_⟩
  obtain ⟨b, e, h2⟩ := Post.asBool_inv h1
  subst e
  exact ⟨b, R.bl_of rx, h2 ρ1 H1 .refl m1⟩
theorem truth_ok {ρ : Rho} {st : Store} {H : Hp} {d : D} {x : V} {k : Bool} {T : Tab} (m : Mt T ρ st H) (r : R T ρ st H d x) (h : truthD st d = some k) : TruV T.K x H k := by
  cases d with
  | non => cases R.non_of r; simpa [truthD, TruV, eq_comm] using h
  | bl b => cases R.bl_of r; simpa [truthD, TruV, eq_comm] using h
  | int i => cases R.int_of r; simpa [truthD, TruV, eq_comm] using h
  | str s =>
    cases R.str_of r
    simp only [truthD] at h
    by_cases hl : s.length ≤ sizeLine
    · rw [if_pos hl] at h
      exact ⟨hl, (Option.some.inj h).symm⟩
    · rw [if_neg hl] at h
      cases h
  | tup ds =>
    simp only [R] at r
    obtain ⟨a, vs, e1, q, ra⟩ := r
    subst e1
    have hs : SqT T.K H a vs := q.elim (fun z => SqT.of z.1) .inr
    refine .inr (.inl ⟨vs, hs, ?_⟩)
    have e := ra.length
    rw [← Option.some.inj h]
    cases ds <;> cases vs <;> simp_all
  | lst ds =>
    simp only [R] at r
    obtain ⟨a, vs, e1, q, l, ra⟩ := r
    subst e1
    refine .inl ⟨vs, SqL.of q, ?_⟩
    have e := ra.length
    rw [← Option.some.inj h]
    cases ds <;> cases vs <;> simp_all
  | ref n =>
    simp only [R] at r
    obtain ⟨a, e1, hn⟩ := r
    subst e1
    simp only [truthD] at h
    cases q : st[n]? with
    | none => rw [q] at h; cases h
    | some o =>
      rw [q] at h
      have ho := m.obj n a o hn q
      cases o with
      | lst ds =>
        obtain ⟨vs, q2, ra⟩ := ho
        refine .inl ⟨vs, SqL.of q2, ?_⟩
        have e := ra.length
        rw [← Option.some.inj h]
        cases ds <;> cases vs <;> simp_all
      | dk ds =>
        obtain ⟨vs, q2, ra⟩ := ho
        refine .inr (.inr ⟨vs, q2, ?_⟩)
        rw [← Option.some.inj h]
        cases ds with
        | nil => simp only [RKV] at ra; rw [ra]; rfl
        | cons p r =>
          obtain ⟨x, xs, e, _⟩ := ra
          rw [e]
          rfl
      | _ => cases h
  | _ => cases h
theorem dt_tru (h : DE X fl Wx e ma) (he : ∀ whole, isTrue e X.env whole = (do let v ← whole; standAt e.pos; holding [v] (truthy v)) := by intro _; rfl) : DT X fl Wx e (tTru ma) := by
  refine pt_imp (pt_truth h he) fun σ H Q ⟨ρ, δ, st, m, en, h⟩ => ?_
  refine ⟨ρ, δ, st, m, en, (Post.bind h).monoE fun d ρ1 st1 H1 e1 m1 h1 x rx => ?_⟩
  cases q : truthD st1 d with
  | none => rw [q] at h1; exact False.elim h1
  | some k =>
    rw [q] at h1
    exact ⟨k, truth_ok m1 rx q, h1 ρ1 H1 .refl m1⟩
theorem dw_and1 (ha : DT X fl Wx a mt) : DW X fl Wx (.BoolOp .And [a] pos) mt := pw_and1 ha
theorem dw_or1 (ha : DT X fl Wx a mt) : DW X fl Wx (.BoolOp .Or [a] pos) mt := pw_or1 ha
theorem dw_and (ha : DT X fl Wx a mt) (hb : DW X fl Wx (.BoolOp .And (b :: rest) pos) mu) : DW X fl Wx (.BoolOp .And (a :: b :: rest) pos) (tAndM mt mu) := by
  refine pw_imp (pw_and ha hb) fun σ H Q ⟨ρ, δ, st, m, en, h⟩ => ?_
  refine ⟨ρ, δ, st, m, en, (Post.bind h).monoE fun c ρ1 st1 H1 e1 m1 h1 => ?_⟩
  cases c with
  | true => exact ⟨ρ1, δ, st1, m1, en.ext e1, h1⟩
  | false => exact h1 ρ1 H1 .refl m1
theorem dw_or (ha : DT X fl Wx a mt) (hb : DW X fl Wx (.BoolOp .Or (b :: rest) pos) mu) : DW X fl Wx (.BoolOp .Or (a :: b :: rest) pos) (tOrM mt mu) := by
  refine pw_imp (pw_or ha hb) fun σ H Q ⟨ρ, δ, st, m, en, h⟩ => ?_
  refine ⟨ρ, δ, st, m, en, (Post.bind h).monoE fun c ρ1 st1 H1 e1 m1 h1 => ?_⟩
  cases c with
  | true => exact h1 ρ1 H1 .refl m1
  | false => exact ⟨ρ1, δ, st1, m1, en.ext e1, h1⟩
theorem dt_w {e : Expr} (h : DW X fl Wx e mt) : DT X fl Wx e mt := PW.pt h
theorem dt_not (ha : DT X fl Wx a mt) : DT X fl Wx (.UnaryOp .Not a pos) (tNotM mt) := by
  refine pt_imp (pt_not ha) fun σ H Q ⟨ρ, δ, st, m, en, h⟩ => ?_
  refine ⟨ρ, δ, st, m, en, (Post.bind h).monoE fun c ρ1 st1 H1 e1 m1 h1 => ?_⟩
  exact h1 ρ1 H1 .refl m1
theorem de_one {op : BoolOp} (h : DE X fl Wx a ma) : DE X fl Wx (.BoolOp op [a] pos) ma := pe_one h
theorem de_and (ha : DE X fl Wx a ma) (hb : DE X fl Wx (.BoolOp .And (b :: rest) pos) mb) : DE X fl Wx (.BoolOp .And (a :: b :: rest) pos) (eAnd ma mb) := by
  refine pe_imp (pe_and ha hb) fun σ H Q ⟨ρ, δ, st, m, en, h⟩ => ?_
  refine ⟨ρ, δ, st, m, en, (Post.bind h).monoE fun c ρ1 st1 H1 e1 m1 h1 x rx => ?_⟩
  obtain ⟨k, e, h2⟩ := Post.asBool_bind h1
  subst e
  refine ⟨k, R.bl_of rx, ?_⟩
  cases k with
  | true => exact ⟨ρ1, δ, st1, m1, en.ext e1, h2⟩
  | false => exact h2 ρ1 H1 .refl m1 _ R.bl
theorem de_or (ha : DE X fl Wx a ma) (hb : DE X fl Wx (.BoolOp .Or (b :: rest) pos) mb) : DE X fl Wx (.BoolOp .Or (a :: b :: rest) pos) (eOr ma mb) := by
  refine pe_imp (pe_or ha hb) fun σ H Q ⟨ρ, δ, st, m, en, h⟩ => ?_
  refine ⟨ρ, δ, st, m, en, (Post.bind h).monoE fun c ρ1 st1 H1 e1 m1 h1 x rx => ?_⟩
  obtain ⟨k, e, h2⟩ := Post.asBool_bind h1
  subst e
  refine ⟨k, R.bl_of rx, ?_⟩
  cases k with
  | true => exact h2 ρ1 H1 .refl m1 _ R.bl
  | false => exact ⟨ρ1, δ, st1, m1, en.ext e1, h2⟩
theorem de_not (ha : DE X fl Wx a ma) : DE X fl Wx (.UnaryOp .Not a pos) (eNot ma) := by
  refine pe_imp (pe_not ha) fun σ H Q ⟨ρ, δ, st, m, en, h⟩ => ?_
  refine ⟨ρ, δ, st, m, en, (Post.bind h).monoE fun c ρ1 st1 H1 e1 m1 h1 x rx => ?_⟩
  obtain ⟨k, e, h2⟩ := Post.asBool_bind h1
  subst e
  exact ⟨k, R.bl_of rx, h2 ρ1 H1 .refl m1 _ R.bl⟩

/-! ### statements -/
def sNil : SM := fun δ => pure (.next, δ)
def sSeq (a b : SM) : SM := fun δ => a δ >>= fun p => match p.1 with
  | .next => b p.2
  | f => pure (f, p.2)
def sSet (i : Nat) (m : EM) : SM := fun δ => m δ >>= fun d => pure (.next, δ.set i (some d))
def sEx (m : EM) : SM := fun δ => m δ >>= fun _ => pure (.next, δ)
def sRet (m : EM) : SM := fun δ => m δ >>= fun d => pure (.ret d, δ)
def sRetN : SM := fun δ => pure (.ret .non, δ)
def sBrk : SM := fun δ => pure (.brk, δ)
def sCont : SM := fun δ => pure (.cont, δ)
def sIf (t : TM) (a b : SM) : SM := fun δ => t δ >>= fun c => if c = true then a δ else b δ
def sNever : SM := fun _ => M.stuck
variable {E : XK} {s : Stmt} {ss : List Stmt} {mm nn : SM}
abbrev DS (X : Cx) (fl : Str → List Str) (E : XK) (s : Stmt) (m : SM) : Prop := PS X s (tDS (XT X fl) E m)
abbrev DSs (X : Cx) (fl : Str → List Str) (E : XK) (s : List Stmt) (m : SM) : Prop := PSs X s (tDS (XT X fl) E m)
theorem Post.sig {α : Type} {T : Tab} {ρ : Rho} {st : Store} {H : Hp} {σ σ' : L2.St} {E : XK} {P : α → Rho → Store → Hp → Prop} {r : Res α} (h : Post T ρ st H σ (wx E) P r) : Post T ρ st H σ' (wx E) P r := by
  cases r with
  | ok v st' => exact h
  | exc c ds st' => exact h
  | stuck => exact h
theorem dss_nil : DSs X fl E [] sNil := by
  refine pss_imp pss_nil fun D σ H ⟨ρ, δ, st, m, en, h⟩ => ?_
  exact h ρ H .refl m σ en
theorem go_seq {D : Ends} {σ : L2.St} {H : Hp} (h : tDS (XT X fl) E (sSeq mm nn) D σ H) : tDS (XT X fl) E mm { D with nx := tDS (XT X fl) E nn D } σ H := by
  obtain ⟨ρ, δ, st, m, en, h⟩ := h
  refine ⟨ρ, δ, st, m, en, (Post.bind h).monoE fun p ρ1 st1 H1 e1 m1 h1 => ?_⟩
  obtain ⟨f, δ1⟩ := p
  cases f with
  | next => exact fun σ1 en1 => ⟨ρ1, δ1, st1, m1, en1, h1.sig⟩
  | ret d => exact h1 ρ1 H1 .refl m1
  | brk => exact h1 ρ1 H1 .refl m1
  | cont => exact h1 ρ1 H1 .refl m1
theorem dss_cons (h1 : DS X fl E s mm) (h2 : DSs X fl E ss nn) : DSs X fl E (s :: ss) (sSeq mm nn) := pss_imp (pss_cons h1 h2) fun _ _ _ h => go_seq h
theorem dss_one (h1 : DS X fl E s mm) : DSs X fl E [s] mm := pss_one h1
theorem EnvOk.set {T : Tab} {ρ : Rho} {st : Store} {H : Hp} {δ : DEnv} {σ : L2.St} (en : EnvOk T ρ st H δ σ) (i : Nat) {d : D} {x : V} (r : R T ρ st H d x) : EnvOk T ρ st H (δ.set i (some d)) (σ.set i (some x)) := by
  refine ⟨by simp [en.len], fun j d' h => ?_⟩
  by_cases hj : i = j
  · subst hj
    have hi : i < δ.length := by
      have := (List.getElem?_eq_some_iff.mp h).1
      simpa using this
    rw [List.getElem?_set_self hi] at h
    cases h
    exact ⟨x, List.getElem?_set_self (by rw [← en.len]; exact hi), r⟩
  · rw [List.getElem?_set_ne hj] at h
    obtain ⟨y, h1, h2⟩ := en.get j d' h
    exact ⟨y, by rw [List.getElem?_set_ne hj]; exact h1, h2⟩
theorem ds_set {i : Nat} {x : Str} {pos' : Pos} (hN : X.N.Nodup) (hi : X.N[i]? = some x) (hx : Loc X.env.scope x) (he : DE X fl (wx E) e ma) (hs : swapsWith e (some (.Name x pos')) pos.line X.env = pure false := by rfl) (hf : X.fn x = true ∨ X.env.scope.names.lookup x = some .local := by first | exact .inl rfl | exact .inr rfl | assumption) :
    DS X fl E (.Assign [.Name x pos'] e pos) (sSet i ma) := by
  refine ps_imp (ps_set hN hi hx he hs hf) fun D σ H ⟨ρ, δ, st, m, en, h⟩ => ?_
  refine ⟨ρ, δ, st, m, en, (Post.bind h).monoE fun d ρ1 st1 H1 e1 m1 h1 x rx => ?_⟩
  exact h1 ρ1 H1 .refl m1 _ ((en.ext e1).set i rx)
theorem ds_expr (he : DE X fl (wx E) e ma) (hs : swapsWith e none pos.line X.env = pure false := by rfl) : DS X fl E (.Expr e pos) (sEx ma) := by
  refine ps_imp (ps_expr he hs) fun D σ H ⟨ρ, δ, st, m, en, h⟩ => ?_
  refine ⟨ρ, δ, st, m, en, (Post.bind h).monoE fun d ρ1 st1 H1 e1 m1 h1 x rx => ?_⟩
  exact h1 ρ1 H1 .refl m1 _ (en.ext e1)
theorem ds_ret (he : DE X fl (wx E) e ma) : DS X fl E (.Return (some e) pos) (sRet ma) := by
  refine ps_imp (ps_ret he) fun D σ H ⟨ρ, δ, st, m, en, h⟩ => ?_
  refine ⟨ρ, δ, st, m, en, (Post.bind h).monoE fun d ρ1 st1 H1 e1 m1 h1 x rx => ?_⟩
  exact h1 ρ1 H1 .refl m1 x rx
theorem ds_retN : DS X fl E (.Return none pos) sRetN := by
  refine ps_imp ps_retN fun D σ H ⟨ρ, δ, st, m, en, h⟩ => ?_
  exact h ρ H .refl m .non R.non
theorem ds_pass : DS X fl E (.Pass pos) sNil := by
  refine ps_imp ps_pass fun D σ H ⟨ρ, δ, st, m, en, h⟩ => ?_
  exact h ρ H .refl m σ en
theorem ds_break : DS X fl E (.Break pos) sBrk := by
  refine ps_imp ps_break fun D σ H ⟨ρ, δ, st, m, en, h⟩ => ?_
  exact h ρ H .refl m σ en
theorem ds_cont : DS X fl E (.Continue pos) sCont := by
  refine ps_imp ps_continue fun D σ H ⟨ρ, δ, st, m, en, h⟩ => ?_
  exact h ρ H .refl m σ en
theorem ds_never : DS X fl E s sNever := ps_imp ps_never fun D σ H ⟨ρ, δ, st, m, en, h⟩ => h
theorem dss_never : DSs X fl E ss sNever := pss_imp pss_never fun D σ H ⟨ρ, δ, st, m, en, h⟩ => h
theorem ds_if {c : Expr} {aa bb : List Stmt} (hc : DT X fl (wx E) c mt) (ha : DSs X fl E aa mm) (hb : DSs X fl E bb nn) : DS X fl E (.If c aa bb pos) (sIf mt mm nn) := by
  refine ps_imp (ps_if hc ha hb) fun D σ H ⟨ρ, δ, st, m, en, h⟩ => ?_
  refine ⟨ρ, δ, st, m, en, (Post.bind h).monoE fun c ρ1 st1 H1 e1 m1 h1 => ?_⟩
  cases c with
  | true => exact ⟨ρ1, δ, st1, m1, en.ext e1, h1⟩
  | false => exact ⟨ρ1, δ, st1, m1, en.ext e1, h1⟩
end
end DL
/-! DL4: defs and their calls; loops; comprehensions. -/
namespace DL
open PySem PySem.Spec PyProof.Rows L2

/-! ### defs -/
/-- the promise: it computes m -/
def spD (T : Tab) (n : Nat) (m : List D → M D) : Sp := fun vs H Q E => ∃ ρ st ds, Mt T ρ st H ∧ RAll T ρ st H ds vs ∧ ds.length = n ∧ Post T ρ st H [] (wx E) (fun v ρ' st' H' => ∀ x, R T ρ' st' H' v x → Q x H') (m ds st)
def outOf (p : Fl × DEnv) : M D := match p.1 with
  | .ret d => pure d
  | .next => pure .non
  | _ => M.stuck
@[simp] theorem outOf_ret (d : D) (δ : DEnv) (st : Store) : outOf (.ret d, δ) st = .ok d st := rfl
@[simp] theorem outOf_next (δ : DEnv) (st : Store) : outOf (.next, δ) st = .ok .non st := rfl
def startD (N : Nat) (ds : List D) : DEnv := ds.map some ++ List.replicate (N - ds.length) none
def fn (N : Nat) (body : SM) : List D → M D := fun ds => body (startD N ds) >>= outOf
def eCall (n : Nat) (m : List D → M D) (a : AM) : EM := fun δ => a δ >>= fun ds => if ds.length = n then m ds else M.stuck

/-- room, and nothing is being shown -/
structure RoomG (k : Nat) (A : Around) : Prop where
  rm : Room k A
  gd : A.guards = some []
theorem RoomG.mono {j k : Nat} {A : Around} (r : RoomG k A) (h : j ≤ k) : RoomG j A := ⟨r.rm.mono h, r.gd⟩
/-- a def keeps the promise sp wherever nothing is being shown -/
structure FnG (P : Program) (w : World) (K : PySem.W.Frag) (mg : Str → Option Value) (base : Heap) (k : Nat) (f : Addr) (fd : FuncData) (ps : List Str) (sp : Sp) : Prop where
  len : ∀ vs H Q E, sp vs H Q E → vs.length = ps.length
  run : ∀ (A : Around) (outer : List Env) (s : Shared) (H : Hp) (args : Args) (us : List Value) (vs : List V) (Q : VK) (E : XK), RoomG k A → Env0 P w K mg base A outer s H → BindsTo s fd args (ps.zip us) → Vals vs us → sp vs H Q E →
    codeAny (model P w) A (.call (.ref f) args) (CR (L2.CX P w) outer P w H s Q E) s
section
variable {P : Program} {w : World} {K : PySem.W.Frag} {mg : Str → Option Value} {base : Heap}
theorem FnG.mono {j k : Nat} {f : Addr} {fd : FuncData} {ps : List Str} {sp : Sp} (F : FnG P w K mg base j f fd ps sp) (h : j ≤ k) : FnG P w K mg base k f fd ps sp :=
  ⟨F.len, fun A outer s H args us vs Q E hr => F.run A outer s H args us vs Q E (hr.mono h)⟩
theorem fnG_of {k : Nat} {x qual : Str} {st : Stmt} {f : Addr} {fd : FuncData} {N ps : List Str} {sp : Sp} (F : Fun K x qual st f fd) (S : FnScope N ps (defScope st)) (len : ∀ vs H Q E, sp vs H Q E → vs.length = ps.length)
    (hbody : ∀ (cdv : Value) (A : Around) (outer : List Env) (s : Shared) (H : Hp) (vs : List V) (Q : VK) (E : XK), RoomG k (A.deeper (envOfC qual (defScope st) s.heap.objs.size f cdv)) → sp vs H Q E →
      ∃ t, PSs (cxOf (L2.CX P w) P w K mg base N qual (defScope st) f cdv A outer s H E) (defBody st) t ∧ t { nx := fun _ H' => Q .non H', rt := Q } (L2.start N vs) H) : FnG P w K mg base (k + 1) f fd ps sp := by
  obtain ⟨oc, od, kV, doc, pm, an, cdv, ct, osl, rfl, lk, hcd⟩ := F.ex
  exact ⟨len, fun A outer s H args us vs Q E hr e0 hb r hsp => LamX.run_ofS lk hcd S hr.rm e0 hb r (len _ _ _ _ hsp) fun hr' => hbody cdv A outer s H vs Q E ⟨hr', hr.gd⟩ hsp⟩
end
/-- the callee runs, what is raised is wished for at the caller's slots -/
theorem run_fnG {X : Cx} {k : Nat} {f : Addr} {fd : FuncData} {ps : List Str} {sp : Sp} {E : XK} {pins : List (Addr × Obj)} {σ : L2.St} {H : Hp} {s : Shared} {Q : VK} {us : List Value} {vs : List V}
    (F : FnG X.prog X.w X.K X.mg X.base k f fd ps sp) (hr : RoomG k X.A) (hb : Binds X.K fd ps []) (hx : PassesAt (L2.CX X.prog X.w) X σ E)
    (I : Inv X pins σ H s) (r : Vals vs us) (h : sp vs H Q E) : wpAny (model X.prog X.w) X.A (call (.ref f) us) (EP X pins σ Q) X.xe s := by
  have hl : (us ++ []).length = ps.length := by rw [List.append_nil, ← r.length]; exact F.len _ _ _ _ h
  have hb' := hb s us I.kIn hl
  rw [List.append_nil] at hb'
  refine wpAny_call (codeAny_mono (F.run X.A X.stack s H ⟨us, []⟩ us vs Q E hr I.env0 hb' r h) fun r s' hq => ?_)
  match r, hq with
  | .error e, hq => exact hx pins H s e s' I hq
  | .ok (.ret u), hq => exact I.after hq
  | .ok .next, hq => exact False.elim hq
  | .ok .brk, hq => exact False.elim hq
  | .ok .cont, hq => exact False.elim hq

/-- a def of the text that computes m -/
structure Fd (P : Program) (w : World) (K : PySem.W.Frag) (mg : Str → Option Value) (base : Heap) (fl : Str → List Str) (k : Nat) (x : Str) (n : Nat) (m : List D → M D) : Prop where
  ex : ∃ (f : Addr) (fd : FuncData) (ps : List Str), FnG P w K mg base k f fd ps (spD ⟨K, mg, fl⟩ n m) ∧ mg x = some (.ref f) ∧ PySem.W.keepIn K (.ref f) = true ∧ Binds K fd ps []

theorem start_ok {T : Tab} {ρ : Rho} {st : Store} {H : Hp} {ds : List D} {vs : List V} {N : List Str} (r : RAll T ρ st H ds vs) : EnvOk T ρ st H (startD N.length ds) (L2.start N vs) := by
  have hl := r.length
  refine ⟨by simp [startD, L2.start, hl], fun i d h => ?_⟩
  unfold startD at h
  have hi : i < ds.length := by
    by_cases hi : i < ds.length
    · exact hi
    · rw [List.getElem?_append_right (by simpa using hi), List.getElem?_replicate] at h
      split at h <;> cases h
  rw [List.getElem?_append_left (by simpa using hi), List.getElem?_map] at h
  have h' : ds[i]? = some d := by
    cases e : ds[i]? with
    | none => rw [e] at h; cases h
    | some a => rw [e] at h; cases h; rfl
  obtain ⟨x, e1, e2⟩ := r.get h'
  refine ⟨x, ?_, e2⟩
  unfold L2.start
  rw [List.getElem?_append_left (by rw [List.length_map, ← hl]; exact hi), List.getElem?_map, e1]
  rfl
section
variable {P : Program} {w : World} {K : PySem.W.Frag} {mg : Str → Option Value} {base : Heap} {fl : Str → List Str} {k : Nat}
theorem fnok_of {x qual : Str} {st : Stmt} {f : Addr} {fd : FuncData} {N ps : List Str} {mm : SM} (F : Fun K x qual st f fd) (S : FnScope N ps (defScope st))
    (hb : ∀ (cdv : Value) (A : Around) (outer : List Env) (s : Shared) (H : Hp) (E : XK), RoomG k (A.deeper (envOfC qual (defScope st) s.heap.objs.size f cdv)) → DSs (cxOf (L2.CX P w) P w K mg base N qual (defScope st) f cdv A outer s H E) fl E (defBody st) mm) :
    FnG P w K mg base (k + 1) f fd ps (spD ⟨K, mg, fl⟩ ps.length (fn N.length mm)) := by
  refine fnG_of F S (fun vs H Q E h => ?_) fun cdv A outer s H vs Q E hr hsp => ⟨_, hb cdv A outer s H E hr, ?_⟩
  · obtain ⟨ρ, st, ds, m, r, hl, _⟩ := h
    rw [← r.length]
    exact hl
  · obtain ⟨ρ, st, ds, m, r, hl, h⟩ := hsp
    refine ⟨ρ, _, st, m, start_ok r, (Post.bind h).sig.monoE fun p ρ1 st1 H1 e1 m1 h1 => ?_⟩
    obtain ⟨fl, δ⟩ := p
    cases fl with
    | ret d => exact fun x rx => h1 ρ1 H1 .refl m1 x rx
    | next => exact fun σ' _ => h1 ρ1 H1 .refl m1 .non R.non
    | brk => exact fun σ' _ => h1
    | cont => exact fun σ' _ => h1
theorem fd_of {x : Str} {st : Stmt} {f : Addr} {fd : FuncData} {N ps : List Str} {mm : SM} (F : Fun K x x st f fd) (S : FnScope N ps (defScope st)) (hm : mg x = some (.ref f)) (hbd : Binds K fd ps [])
    (hb : ∀ (cdv : Value) (A : Around) (outer : List Env) (s : Shared) (H : Hp) (E : XK), RoomG k (A.deeper (envOfC x (defScope st) s.heap.objs.size f cdv)) → DSs (cxOf (L2.CX P w) P w K mg base N x (defScope st) f cdv A outer s H E) fl E (defBody st) mm) :
    Fd P w K mg base fl (k + 1) x ps.length (fn N.length mm) := ⟨⟨f, fd, ps, fnok_of F S hb, hm, F.kp, hbd⟩⟩
theorem Fd.mono {j : Nat} {x : Str} {n : Nat} {m : List D → M D} (F : Fd P w K mg base fl j x n m) (h : j ≤ k) : Fd P w K mg base fl k x n m := by
  obtain ⟨f, fd, ps, a, b⟩ := F.ex
  exact ⟨⟨f, fd, ps, a.mono h, b⟩⟩
end
section
variable {X : Cx} {fl : Str → List Str} {Wx : WX} {e : Expr} {es : List Expr} {mA : AM} {p pos : Pos} {k n : Nat} {x : Str} {m : List D → M D}
theorem go_call {σ : L2.St} {H : Hp} {Q : VK} (h : tD (XT X fl) Wx (eCall n m mA) σ H Q) : tDA (XT X fl) Wx mA σ H fun vs H1 => spD (XT X fl) n m vs H1 Q (WE Wx σ) := by
  obtain ⟨ρ, δ, st, mt, en, h⟩ := h
  refine ⟨ρ, δ, st, mt, en, (Post.bind h).monoE fun ds ρ1 st1 H1 e1 m1 h1 xs rxs => ?_⟩
  by_cases hl : ds.length = n
  · rw [if_pos hl] at h1
    refine ⟨ρ1, st1, ds, m1, rxs, hl, ?_⟩
    cases q : m ds st1 with
    | ok v st' => rw [q] at h1; exact h1
    | exc c d st' => rw [q] at h1; exact h1
    | stuck => rw [q] at h1; exact h1
  · rw [if_neg hl] at h1
    exact False.elim h1
theorem de_call (F : Fd X.prog X.w X.K X.mg X.base fl k x n m) (hr : RoomG k X.A) (tk : Takes X Wx) (hg : Gl X x) (ha : DA X fl Wx (e :: es) mA) (hdb : (x == ("__debug__" : Str)) = false := by decide)
    (he : starEach (e :: es) X.env = (false, eval e X.env) :: starEach es X.env := by rfl) (hpl : (backTo pos (starEach es X.env)).any (·.1) = false := by rfl) : DE X fl Wx (.Call (.Name x p) (e :: es) [] pos) (eCall n m mA) := by
  obtain ⟨f, fd, ps, F, hm, hk, hb⟩ := F.ex
  refine ⟨fun pins s σ H Q I h => ?_⟩
  have h' := go_call h
  refine wpAny_Call_Name_kw (ld_glob I hg hm ?_ hdb)
  refine PySem.W.callWith_K (h₀ := X.base) I.ok.mod.kin hk (thn (ha.run pos pins s σ H _ I h') fun us s1 ⟨vs, H1, I1, r, q⟩ => ⟨I1.kIn, ?_⟩) he hpl
  exact run_fnG F hr hb (passAt tk σ) I1 r q
theorem de_call0 (F : Fd X.prog X.w X.K X.mg X.base fl k x n m) (hr : RoomG k X.A) (tk : Takes X Wx) (hg : Gl X x) (hdb : (x == ("__debug__" : Str)) = false := by decide) : DE X fl Wx (.Call (.Name x p) [] [] pos) (eCall n m aNil) := by
  obtain ⟨f, fd, ps, F, hm, hk, hb⟩ := F.ex
  refine ⟨fun pins s σ H Q I h => ?_⟩
  obtain ⟨ρ, δ, st, mt, en, h⟩ := go_call h
  have q := h ρ H .refl mt [] RAll.nil
  refine wpAny_Call_Name_kw (ld_glob I hg hm ?_ hdb)
  exact PySem.W.callWith_K0 I.kIn hk (run_fnG (us := []) F hr hb (passAt tk σ) I .nil q)
end

/-! ### targets -/
abbrev GM := D → DEnv → Option DEnv
abbrev GMs := List D → DEnv → Option DEnv
def gSet (i : Nat) : GM := fun d δ => some (δ.set i (some d))
def gsNil : GMs := fun ds δ => match ds with | [] => some δ | _ => none
def gsCons (g : GM) (r : GMs) : GMs := fun ds δ => match ds with | [] => none | d :: ds => (g d δ).bind fun δ1 => r ds δ1
def gTupD (n : Nat) (g : GMs) : GM := fun d δ => match d with
  | .tup ds => if ds.length = n then g ds δ else none
  | _ => none
section
variable (T : Tab) (vs : List Nat)
def tDG (g : GM) : TG := fun x σ H Q => ∃ ρ δ st d δ', Mt T ρ st H ∧ EnvOk T ρ st H δ σ ∧ R T ρ st H d x ∧ g d δ = some δ' ∧ ∀ σ', wipe σ' vs = wipe σ vs → EnvOk T ρ st H δ' σ' → Q σ' H
def tDGs (g : GMs) : TGs := fun xs σ H Q => ∃ ρ δ st ds δ', Mt T ρ st H ∧ EnvOk T ρ st H δ σ ∧ RAll T ρ st H ds xs ∧ g ds δ = some δ' ∧ ∀ σ', wipe σ' vs = wipe σ vs → EnvOk T ρ st H δ' σ' → Q σ' H
end
theorem wipe_set {σ : L2.St} {i : Nat} {x : Option V} : ∀ {vs : List Nat}, i ∈ vs → wipe (σ.set i x) vs = wipe σ vs
  | [], h => by simp at h
  | v :: vs, h => by
    show (wipe (σ.set i x) vs).set v none = (wipe σ vs).set v none
    by_cases hm : i ∈ vs
    · rw [wipe_set hm]
    · have e : i = v := by
        rcases List.mem_cons.mp h with e | e
        · exact e
        · exact absurd e hm
      subst e
      have k : ∀ (l : List Nat), i ∉ l → (wipe (σ.set i x) l).set i none = (wipe σ l).set i none := by
        intro l
        induction l with
        | nil => intro _; show (σ.set i x).set i none = σ.set i none; rw [List.set_set]
        | cons u l ih =>
          intro hl
          have n1 : i ≠ u := fun e => hl (by rw [e]; exact List.mem_cons_self)
          have n2 : i ∉ l := fun e => hl (List.mem_cons_of_mem _ e)
          show ((wipe (σ.set i x) l).set u none).set i none = ((wipe σ l).set u none).set i none
          rw [List.set_comm _ _ (Ne.symm n1), ih n2, List.set_comm _ _ (Ne.symm n1)]
      exact k vs hm
section
variable {X : Cx} {fl : Str → List Str} {vs : List Nat} {tg : Expr} {tgs : List Expr} {g : GM} {gs : GMs} {pos : Pos}
abbrev DG (X : Cx) (fl : Str → List Str) (vs : List Nat) (e : Expr) (g : GM) : Prop := PG X e (tDG (XT X fl) vs g)
abbrev DGs (X : Cx) (fl : Str → List Str) (vs : List Nat) (e : List Expr) (g : GMs) : Prop := PGs X e (tDGs (XT X fl) vs g)
theorem pg_imp {t t' : TG} (h : PG X tg t) (i : ∀ v σ H Q, t' v σ H Q → t v σ H Q) : PG X tg t' := ⟨fun pins s σ H v u Q I r q => h.run pins s σ H v u Q I r (i v σ H Q q)⟩
theorem pgs_imp {t t' : TGs} (h : PGs X tgs t) (i : ∀ v σ H Q, t' v σ H Q → t v σ H Q) : PGs X tgs t' := ⟨fun pins s σ H v u Q I r q => h.run pins s σ H v u Q I r (i v σ H Q q)⟩
theorem dg_name {i : Nat} {x : Str} (hN : X.N.Nodup) (hi : X.N[i]? = some x) (hx : Loc X.env.scope x) (hv : i ∈ vs) (hf : X.fn x = true ∨ X.env.scope.names.lookup x = some .local := by first | exact .inl rfl | exact .inr rfl | assumption) : DG X fl vs (.Name x pos) (gSet i) := by
  refine pg_imp (pg_name hN hi hx hf) fun v σ H Q ⟨ρ, δ, st, d, δ', m, en, r, hg, h⟩ => ?_
  obtain rfl : δ.set i (some d) = δ' := Option.some.inj hg
  exact h _ (wipe_set hv) (en.set i r)
theorem dgs_nil : DGs X fl vs [] gsNil := by
  refine pgs_imp pgs_nil fun v σ H Q ⟨ρ, δ, st, ds, δ', m, en, r, hg, h⟩ => ?_
  cases ds with
  | nil =>
    simp only [RAll] at r
    subst r
    obtain rfl : δ = δ' := Option.some.inj hg
    exact ⟨rfl, h σ rfl en⟩
  | cons d ds => cases hg
theorem dgs_cons (h1 : DG X fl vs tg g) (h2 : DGs X fl vs tgs gs) (hs : (assignEach (tg :: tgs) X.env).map (·.2) = assign tg X.env :: (assignEach tgs X.env).map (·.2) := by rfl) : DGs X fl vs (tg :: tgs) (gsCons g gs) := by
  refine pgs_imp (pgs_cons h1 h2 hs) fun v σ H Q ⟨ρ, δ, st, ds, δ', m, en, r, hg, h⟩ => ?_
  cases ds with
  | nil => cases hg
  | cons d ds =>
    simp only [RAll] at r
    obtain ⟨x, xs, e, rx, rxs⟩ := r
    simp only [gsCons] at hg
    cases q : g d δ with
    | none => rw [q] at hg; cases hg
    | some δ1 =>
      rw [q] at hg
      exact ⟨x, xs, e, ρ, δ, st, d, δ1, m, en, rx, q, fun σ1 hw en1 => ⟨ρ, δ1, st, ds, δ', m, en1, rxs, hg, fun σ2 hw2 en2 => h σ2 (hw2.trans hw) en2⟩⟩
theorem dg_tup {k n : Nat} (hc : X.calm = true) (h : DGs X fl vs tgs gs) (hn : (assignEach tgs X.env).length = n := by rfl) (hst : (assignEach tgs X.env).findIdx? (·.1) = none := by rfl) : DG X fl vs (.Tuple tgs k pos) (gTupD n gs) := by
  refine pg_imp (pg_tup hc h hn hst) fun v σ H Q ⟨ρ, δ, st, d, δ', m, en, r, hg, h⟩ => ?_
  cases d with
  | tup ds =>
    simp only [R] at r
    obtain ⟨a, xs, e, q, rxs⟩ := r
    simp only [gTupD] at hg
    by_cases hl : ds.length = n
    · rw [if_pos hl] at hg
      exact ⟨a, xs, e, q.elim (fun z => SqT.of z.1) .inr, by rw [← rxs.length]; exact hl, ρ, δ, st, ds, δ', m, en, rxs, hg, h⟩
    · rw [if_neg hl] at hg
      cases hg
  | _ => cases hg
end

/-! ### what is walked -/
abbrev IM := DEnv → M (List D × Option Nat)
open Classical in
/-- the list of the store that is walked is as it was -/
noncomputable def chk {α : Type} (gd : Option Nat) (all : List D) (m : M α) : M α := fun st => match gd with
  | none => m st
  | some n => if st[n]? = some (.lst all) then m st else .stuck
@[simp] theorem chk_none {α : Type} (all : List D) (m : M α) (st : Store) : chk none all m st = m st := rfl
def GdOk (gd : Option Nat) (all : List D) (st : Store) : Prop := ∀ n, gd = some n → st[n]? = some (.lst all)
theorem Post.chk_inv {α : Type} {T : Tab} {ρ : Rho} {st : Store} {H : Hp} {σ : L2.St} {Wx : WX} {P : α → Rho → Store → Hp → Prop} {gd : Option Nat} {all : List D} {m : M α} (h : Post T ρ st H σ Wx P (chk gd all m st)) : GdOk gd all st ∧ Post T ρ st H σ Wx P (m st) := by
  cases gd with
  | none => exact ⟨fun n e => (by cases e), h⟩
  | some n =>
    unfold chk at h
    dsimp only at h
    by_cases e : st[n]? = some (.lst all)
    · rw [if_pos e] at h
      exact ⟨fun k q => by cases q; exact e, h⟩
    · rw [if_neg e] at h
      exact False.elim h
/-- the iterator J tells ds, whatever is done meanwhile -/
structure JOk (T : Tab) (ρ : Rho) (st : Store) (H : Hp) (J : It) (ds : List D) (gd : Option Nat) : Prop where
  go : ∀ ρ2 st2 H2, Ext ρ st H ρ2 st2 H2 → Mt T ρ2 st2 H2 → GdOk gd ds st2 → ∀ i d, ds[i]? = some d → J.go i H2 ∧ ∀ x H3, J.yld i H2 x H3 → Ext ρ2 st2 H2 ρ2 st2 H3 ∧ Mt T ρ2 st2 H3 ∧ R T ρ2 st2 H3 d x
  stop : ∀ ρ2 st2 H2, Ext ρ st H ρ2 st2 H2 → Mt T ρ2 st2 H2 → GdOk gd ds st2 → ∀ i, ds.length ≤ i → J.stop i H2
def tDI (T : Tab) (Wx : WX) (m : IM) : TI := fun σ H Rr => At T σ H fun ρ δ st => Post T ρ st H σ Wx (fun p ρ1 st1 H1 => ∀ J, JOk T ρ1 st1 H1 J p.1 p.2 → Rr J H1) (m δ st)
abbrev DI (X : Cx) (fl : Str → List Str) (Wx : WX) (tg e : Expr) (m : IM) : Prop := PI X tg e (tDI (XT X fl) Wx m)
theorem pi_imp {X : Cx} {tg e : Expr} {t t' : TI} (h : PI X tg e t) (i : ∀ σ H Q, t' σ H Q → t σ H Q) : PI X tg e t' := ⟨fun pins s σ H Q I q => h.run pins s σ H Q I (i σ H Q q)⟩

/-! ### for -/
noncomputable def forL (gd : Option Nat) (all : List D) (g : GM) (body : SM) : List D → DEnv → M (Fl × DEnv)
  | [], δ => chk gd all (pure (.next, δ))
  | d :: ds, δ => chk gd all (match g d δ with
    | none => M.stuck
    | some δ1 => body δ1 >>= fun p => match p.1 with
      | .next => forL gd all g body ds p.2
      | .cont => forL gd all g body ds p.2
      | .brk => pure (.next, p.2)
      | .ret v => pure (.ret v, p.2))
noncomputable def sFor (it : IM) (g : GM) (body : SM) : SM := fun δ => it δ >>= fun p => forL p.2 p.1 g body p.1 δ
section
variable {X : Cx} {fl : Str → List Str} {E : XK} {vs : List Nat} {tg iter : Expr} {body : List Stmt} {g : GM} {mi : IM} {mb : SM} {pos : Pos}
theorem ds_for (hp : PassesOwn (model X.prog X.w) X.A X.env X.xe) (hc : X.calm = true) (hi : DI X fl (wx E) tg iter mi) (hg : DG X fl vs tg g) (hb : DSs X fl E body mb)
    (hs : ∀ x, foldedSetIterable iter X.env x = pure x := by intro _; rfl) : DS X fl E (.For tg iter body [] pos) (sFor mi g mb) := by
  refine ps_imp (ps_for hp hc hi hg hb hs) fun D σ H ⟨ρ, δ, st, m, en, h⟩ => ?_
  refine ⟨ρ, δ, st, m, en, (Post.bind h).monoE fun p ρ1 st1 H1 e1 m1 h1 J jo => ?_⟩
  obtain ⟨ds, gd⟩ := p
  refine ⟨fun i mm σ2 H2 => mm = ds.length - i ∧ i ≤ ds.length ∧ ∃ ρ2 δ2 st2, Ext ρ1 st1 H1 ρ2 st2 H2 ∧ Mt (XT X fl) ρ2 st2 H2 ∧ EnvOk (XT X fl) ρ2 st2 H2 δ2 σ2 ∧ Post (XT X fl) ρ2 st2 H2 σ2 (wx E) (FlP (XT X fl) D) (forL gd ds g mb (ds.drop i) δ2 st2),
    ⟨ds.length, rfl, Nat.zero_le _, ρ1, δ, st1, .refl, m1, en.ext e1, h1⟩, ?_⟩
  rintro i mm σ2 H2 ⟨rfl, hi, ρ2, δ2, st2, e2, m2, en2, h2⟩
  by_cases hlt : i < ds.length
  · have hd : ds.drop i = ds[i] :: ds.drop (i + 1) := List.drop_eq_getElem_cons hlt
    rw [hd] at h2
    obtain ⟨gk, h3⟩ := Post.chk_inv h2
    obtain ⟨go, yl⟩ := jo.go ρ2 st2 H2 e2 m2 gk i ds[i] (List.getElem?_eq_getElem hlt)
    refine .inr ⟨go, fun σ' H' => ∃ ρ2 δ2 st2, Ext ρ1 st1 H1 ρ2 st2 H' ∧ Mt (XT X fl) ρ2 st2 H' ∧ EnvOk (XT X fl) ρ2 st2 H' δ2 σ' ∧ Post (XT X fl) ρ2 st2 H' σ' (wx E) (FlP (XT X fl) D) (forL gd ds g mb (ds.drop (i + 1)) δ2 st2),
      fun σ' H' ⟨ρ3, δ3, st3, q⟩ => ⟨ds.length - (i + 1), by omega, rfl, hlt, ρ3, δ3, st3, q⟩, fun x H3 y => ?_⟩
    obtain ⟨e3, m3, r3⟩ := yl x H3 y
    cases q : g ds[i] δ2 with
    | none => rw [q] at h3; exact False.elim h3
    | some δ3 =>
      rw [q] at h3
      refine ⟨ρ2, δ2, st2, ds[i], δ3, m3, en2.ext e3, r3, q, fun σ3 _ en3 => ?_⟩
      refine ⟨ρ2, δ3, st2, m3, en3, (Post.bind (Post.ext h3 e3)).sig.monoE fun p ρ4 st4 H4 e4 m4 h4 => ?_⟩
      obtain ⟨f, δ4⟩ := p
      have e14 : Ext ρ1 st1 H1 ρ4 st4 H4 := (e2.trans e3).trans e4
      cases f with
      | next => exact fun σ4 en4 => ⟨ρ4, δ4, st4, e14, m4, en4, h4.sig⟩
      | cont => exact fun σ4 en4 => ⟨ρ4, δ4, st4, e14, m4, en4, h4.sig⟩
      | brk => exact h4 ρ4 H4 .refl m4
      | ret v => exact h4 ρ4 H4 .refl m4
  · have e : i = ds.length := by omega
    subst e
    rw [List.drop_length] at h2
    obtain ⟨gk, h3⟩ := Post.chk_inv h2
    exact .inl ⟨jo.stop ρ2 st2 H2 e2 m2 gk _ (Nat.le_refl _), h3 ρ2 H2 .refl m2 σ2 en2⟩
end

/-! ### comprehensions -/
def wipeD (δ : DEnv) : List Nat → DEnv
  | [] => δ
  | v :: vs => (wipeD δ vs).set v none
def tYesM : TM := fun _ => pure true
/-- what raises is not followed -/
def nox {α : Type} (m : M α) : M α := fun st => match m st with
  | .exc _ _ _ => .stuck
  | r => r
noncomputable def compL (gd : Option Nat) (all : List D) (g : GM) (t : TM) (e : EM) (δ : DEnv) : List D → M (List D)
  | [] => chk gd all (pure [])
  | d :: ds => chk gd all (match g d δ with
    | none => M.stuck
    | some δ1 => t δ1 >>= fun b => if b = true then e δ1 >>= fun y => compL gd all g t e δ ds >>= fun ys => pure (y :: ys) else compL gd all g t e δ ds)
noncomputable def aComp (vs : List Nat) (it : IM) (g : GM) (t : TM) (e : EM) : AM := fun δ => it δ >>= fun p => if p.1.length ≤ sizeLine then nox (compL p.2 p.1 g t e (wipeD δ vs) p.1) else M.stuck
noncomputable def eComp (vs : List Nat) (it : IM) (g : GM) (t : TM) (e : EM) : EM := fun δ => aComp vs it g t e δ >>= fun ds => pure (.lst ds)
/-- made into a list of the store -/
noncomputable def eCompS (vs : List Nat) (it : IM) (g : GM) (t : TM) (e : EM) : EM := fun δ => aComp vs it g t e δ >>= fun ds st => .ok (.ref st.length) (st ++ [.lst ds])
theorem EnvOk.unset {T : Tab} {ρ : Rho} {st : Store} {H : Hp} {δ : DEnv} {σ : L2.St} (en : EnvOk T ρ st H δ σ) (i : Nat) : EnvOk T ρ st H (δ.set i none) (σ.set i none) := by
  refine ⟨by simp [en.len], fun j d' h => ?_⟩
  by_cases hj : i = j
  · subst hj
    have hi : i < δ.length := by
      have := (List.getElem?_eq_some_iff.mp h).1
      simpa using this
    rw [List.getElem?_set_self hi] at h
    cases h
  · rw [List.getElem?_set_ne hj] at h
    obtain ⟨y, h1, h2⟩ := en.get j d' h
    exact ⟨y, by rw [List.getElem?_set_ne hj]; exact h1, h2⟩
theorem EnvOk.wipe {T : Tab} {ρ : Rho} {st : Store} {H : Hp} {δ : DEnv} {σ : L2.St} (en : EnvOk T ρ st H δ σ) : ∀ vs : List Nat, EnvOk T ρ st H (wipeD δ vs) (L2.wipe σ vs)
  | [] => en
  | v :: vs => (EnvOk.wipe en vs).unset v
/-- what is being made is told to no one -/
abbrev Rho.hid (ρ : Rho) (D : Addr) : Rho := ⟨ρ.ix, fun a => ρ.pv a ∨ a = D⟩
abbrev Rho.unh (ρ : Rho) (pv : Addr → Prop) : Rho := ⟨ρ.ix, pv⟩
section
variable {T : Tab} {ρ ρ1 ρ2 : Rho} {st st1 st2 : Store} {H H1 H2 : Hp} {p : Addr} {o : HO}
theorem Live.hid {a : Addr} : Live (ρ.hid p) st a ↔ (Live ρ st a ∨ a = p) := by
  unfold Live
  constructor
  · rintro (h | h | h)
    · exact .inl (.inl h)
    · exact .inl (.inr h)
    · exact .inr h
  · rintro ((h | h) | h)
    · exact .inl h
    · exact .inr (.inl h)
    · exact .inr (.inr h)
theorem Ext.hide (m : Mt T ρ st H) (h : H p = none) : Ext ρ st H (ρ.hid p) st (upd H p o) :=
  ⟨fun _ _ k => k, fun _ k => .inl k, fun a l => upd_ne (m.pne h l), fun a u q _ l z => (Live.hid.mp z).elim l (ne_of_none q h), fun a u q _ _ => by rw [upd_ne (ne_of_none q h)]; exact q⟩
theorem Mt.hide (m : Mt T ρ st H) (h : H p = none) : Mt T (ρ.hid p) st (upd H p o) := by
  refine ⟨m.len, m.nd, fun a ha => ?_, fun a ha => ?_, fun a ha => ?_, fun i a so h1 h2 => ?_⟩
  · obtain ⟨u, q⟩ := m.trk a ha
    exact ⟨u, by rw [upd_ne (ne_of_none q h)]; exact q⟩
  · rcases ha with ha | ha
    · obtain ⟨u, q⟩ := m.ptr a ha
      exact ⟨u, by rw [upd_ne (ne_of_none q h)]; exact q⟩
    · exact ⟨o, by rw [ha, upd_same]⟩
  · rcases ha with ha | ha
    · exact m.dj a ha
    · rw [ha]
      exact m.nin h
  · by_cases hd : so = .dead
    · subst hd
      trivial
    · obtain ⟨u, q⟩ := m.live (.inl ⟨i, so, h1, h2, hd⟩)
      exact (m.obj i a so h1 h2).ext (Ext.hide m h) (upd_ne (ne_of_none q h))
theorem Tr.chg (hp : ρ.pv p) : Tr ρ st H ρ st (upd H p o) := ⟨fun _ _ h => h, fun _ _ _ _ l => l, fun a u q _ l => by rw [upd_ne (fun z => l (by rw [z]; exact .inr hp))]; exact q⟩
theorem R.chg (hp : ρ.pv p) (d : D) (x : V) (h : R T ρ st H d x) : R T ρ st (upd H p o) d x := R.tr (Tr.chg hp) d x h
theorem RAll.chg (hp : ρ.pv p) (ds : List D) (vs : List V) (h : RAll T ρ st H ds vs) : RAll T ρ st (upd H p o) ds vs := RAll.tr (Tr.chg hp) ds vs h
theorem RKV.chg {κ : Type} (hp : ρ.pv p) (ds : List (κ × D)) (vs : List (κ × V)) (h : RKV T ρ st H ds vs) : RKV T ρ st (upd H p o) ds vs := RKV.tr (Tr.chg hp) ds vs h
theorem EnvOk.chg {δ : DEnv} {σ : L2.St} (hp : ρ.pv p) (en : EnvOk T ρ st H δ σ) : EnvOk T ρ st (upd H p o) δ σ :=
  ⟨en.len, fun i d k => let ⟨x, k1, k2⟩ := en.get i d k; ⟨x, k1, k2.chg hp d x⟩⟩
theorem Mt.chg (m : Mt T ρ st H) (hp : ρ.pv p) : Mt T ρ st (upd H p o) := by
  have hn := m.dj p hp
  refine ⟨m.len, m.nd, fun a ha => ?_, fun a ha => ?_, m.dj, fun i a so h1 h2 => ?_⟩
  · obtain ⟨u, q⟩ := m.trk a ha
    exact ⟨u, by rw [upd_ne (fun z => hn (by rw [← z]; exact ha))]; exact q⟩
  · by_cases z : a = p
    · exact ⟨o, by rw [z, upd_same]⟩
    · obtain ⟨u, q⟩ := m.ptr a ha
      exact ⟨u, by rw [upd_ne z]; exact q⟩
  · have q := m.obj i a so h1 h2
    have ne : a ≠ p := fun z => hn (by rw [← z]; exact List.mem_of_getElem? h1)
    cases so with
    | dead => trivial
    | lst ds => obtain ⟨vs, q, r⟩ := q; exact ⟨vs, by rw [upd_ne ne]; exact q, r.chg hp _ _⟩
    | dk ds => obtain ⟨vs, q, r⟩ := q; exact ⟨vs, by rw [upd_ne ne]; exact q, r.chg hp _ _⟩
    | dt ds => obtain ⟨vs, q, r⟩ := q; exact ⟨vs, by rw [upd_ne ne]; exact q, r.chg hp _ _⟩
    | ins c ds => obtain ⟨C, dx, vs, c1, q, r⟩ := q; exact ⟨C, dx, vs, c1, by rw [upd_ne ne]; exact q, r.chg hp _ _⟩
theorem Ext.chg (m : Mt T ρ st H) (h : H p = none) (e : Ext ρ st H ρ1 st1 H1) : Ext ρ st H ρ1 st1 (upd H1 p o) :=
  ⟨e.pre, e.pvs, fun a l => by rw [upd_ne (m.pne h l)]; exact e.hid a l, e.live, fun a u q pl l => by rw [upd_ne (ne_of_none q h)]; exact e.stay a u q pl l⟩
theorem Tr.unh {pv : Addr → Prop} (hp : ∀ a, pv a → ρ.pv a) : Tr ρ st H (ρ.unh pv) st H := ⟨fun _ _ h => h, fun a _ _ _ l z => l (z.elim .inl fun z => .inr (hp a z)), fun _ _ q _ _ => q⟩
theorem R.unh {pv : Addr → Prop} (hp : ∀ a, pv a → ρ.pv a) (d : D) (x : V) (h : R T ρ st H d x) : R T (ρ.unh pv) st H d x := R.tr (Tr.unh hp) d x h
theorem RAll.unh {pv : Addr → Prop} (hp : ∀ a, pv a → ρ.pv a) (ds : List D) (vs : List V) (h : RAll T ρ st H ds vs) : RAll T (ρ.unh pv) st H ds vs := RAll.tr (Tr.unh hp) ds vs h
theorem RKV.unh {κ : Type} {pv : Addr → Prop} (hp : ∀ a, pv a → ρ.pv a) (ds : List (κ × D)) (vs : List (κ × V)) (h : RKV T ρ st H ds vs) : RKV T (ρ.unh pv) st H ds vs := RKV.tr (Tr.unh hp) ds vs h
theorem Mt.unh {pv : Addr → Prop} (m : Mt T ρ st H) (hp : ∀ a, pv a → ρ.pv a) : Mt T (ρ.unh pv) st H := by
  refine ⟨m.len, m.nd, m.trk, fun a ha => m.ptr a (hp a ha), fun a ha => m.dj a (hp a ha), fun i a so h1 h2 => ?_⟩
  have q := m.obj i a so h1 h2
  cases so with
  | dead => trivial
  | lst ds => obtain ⟨vs, q, r⟩ := q; exact ⟨vs, q, r.unh hp _ _⟩
  | dk ds => obtain ⟨vs, q, r⟩ := q; exact ⟨vs, q, r.unh hp _ _⟩
  | dt ds => obtain ⟨vs, q, r⟩ := q; exact ⟨vs, q, r.unh hp _ _⟩
  | ins c ds => obtain ⟨C, dx, vs, c1, q, r⟩ := q; exact ⟨C, dx, vs, c1, q, r.unh hp _ _⟩
theorem Ext.unh (e : Ext ρ st H ρ1 st1 H1) : Ext ρ st H (ρ1.unh ρ.pv) st1 H1 :=
  ⟨e.pre, fun _ h => h, e.hid, fun a u q pl l z => e.live a u q pl l (z.elim .inl fun z => .inr (e.pvs a z)), e.stay⟩
/-- what was hidden enters the store -/
abbrev Rho.adopt (ρ : Rho) (pv : Addr → Prop) (p : Addr) : Rho := ⟨ρ.ix ++ [p], pv⟩
theorem Live.adopt {pv : Addr → Prop} {so : SO} {a : Addr} (hl : ρ.ix.length = st.length) (hq : ∀ a, pv a → ρ.pv a) (l : Live (ρ.adopt pv p) (st ++ [so]) a) : Live ρ st a ∨ a = p := by
  have l' : Live (ρ.snoc p) (st ++ [so]) a := l.elim .inl fun z => .inr (hq a z)
  exact Live.snoc hl l'
theorem Tr.adopt {pv : Addr → Prop} {so : SO} (hl : ρ.ix.length = st.length) (hp : ρ.pv p) (hq : ∀ a, pv a → ρ.pv a) : Tr ρ st H (ρ.adopt pv p) (st ++ [so]) (upd H p o) := by
  refine ⟨fun n a k => ?_, fun a u _ _ l z => (Live.adopt hl hq z).elim l fun z => l (by rw [z]; exact .inr hp), fun a u q _ l => by rw [upd_ne (fun z => l (by rw [z]; exact .inr hp))]; exact q⟩
  show (ρ.ix ++ [p])[n]? = some a
  rw [List.getElem?_append_left (List.getElem?_eq_some_iff.mp k).1]
  exact k
theorem Mt.adopt {pv : Addr → Prop} {so : SO} (m : Mt T ρ st H) (hp : ρ.pv p) (hq : ∀ a, pv a → ρ.pv a) (hn : ¬ pv p) (ho : RObj T (ρ.adopt pv p) (st ++ [so]) (upd H p o) so p) : Mt T (ρ.adopt pv p) (st ++ [so]) (upd H p o) := by
  have hnp := m.dj p hp
  refine ⟨by simp [m.len], ?_, fun a ha => ?_, fun a ha => ?_, fun a ha z => ?_, fun i a s1 h1 h2 => ?_⟩
  · show (ρ.ix ++ [p]).Nodup
    rw [List.nodup_append]
    refine ⟨m.nd, by simp, fun a ha b hb => ?_⟩
    have e : b = p := by simpa using hb
    intro z
    rw [z, e] at ha
    exact hnp ha
  · rcases List.mem_append.mp ha with z | z
    · obtain ⟨w, q⟩ := m.trk a z
      exact ⟨w, by rw [upd_ne (fun y => hnp (by rw [← y]; exact z))]; exact q⟩
    · have e : a = p := by simpa using z
      subst e
      exact ⟨o, upd_same⟩
  · obtain ⟨w, q⟩ := m.ptr a (hq a ha)
    exact ⟨w, by rw [upd_ne (fun y => hn (by rw [← y]; exact ha))]; exact q⟩
  · rcases List.mem_append.mp z with z | z
    · exact m.dj a (hq a ha) z
    · have e : a = p := by simpa using z
      exact hn (by rw [← e]; exact ha)
  · have h1' : (ρ.ix ++ [p])[i]? = some a := h1
    by_cases hi : i < ρ.ix.length
    · rw [List.getElem?_append_left hi] at h1'
      rw [List.getElem?_append_left (by have := m.len; omega)] at h2
      have ne : a ≠ p := fun z => hnp (by rw [← z]; exact List.mem_of_getElem? h1')
      have q := m.obj i a s1 h1' h2
      have t := Tr.adopt (H := H) (o := o) (so := so) m.len hp hq
      cases s1 with
      | dead => trivial
      | lst ds => obtain ⟨vs, q, r⟩ := q; exact ⟨vs, by rw [upd_ne ne]; exact q, RAll.tr t _ _ r⟩
      | dk ds => obtain ⟨vs, q, r⟩ := q; exact ⟨vs, by rw [upd_ne ne]; exact q, RKV.tr t _ _ r⟩
      | dt ds => obtain ⟨vs, q, r⟩ := q; exact ⟨vs, by rw [upd_ne ne]; exact q, RKV.tr t _ _ r⟩
      | ins c ds => obtain ⟨C, dx, vs, c1, q, r⟩ := q; exact ⟨C, dx, vs, c1, by rw [upd_ne ne]; exact q, RKV.tr t _ _ r⟩
    · rw [List.getElem?_append_right (by omega)] at h1'
      rw [List.getElem?_append_right (by have := m.len; omega)] at h2
      have e1 : a = p := by simpa using List.mem_of_getElem? h1'
      have e2 : s1 = so := by simpa using List.mem_of_getElem? h2
      subst e1
      subst e2
      exact ho
theorem Ext.adopt {ρ0 : Rho} {st0 : Store} {H0 : Hp} {so : SO} (e : Ext ρ0 st0 H0 ρ st H) (m0 : Mt T ρ0 st0 H0) (hl : ρ.ix.length = st.length) (h0 : H0 p = none) : Ext ρ0 st0 H0 (ρ.adopt ρ0.pv p) (st ++ [so]) (upd H p o) := by
  refine ⟨fun n a k => ?_, fun _ h => h, fun a l => by rw [upd_ne (m0.pne h0 l)]; exact e.hid a l, fun a u q pl l z => ?_, fun a u q pl l => by rw [upd_ne (ne_of_none q h0)]; exact e.stay a u q pl l⟩
  · have k' := e.pre n a k
    show (ρ.ix ++ [p])[n]? = some a
    rw [List.getElem?_append_left (List.getElem?_eq_some_iff.mp k').1]
    exact k'
  · rcases Live.adopt (pv := ρ0.pv) hl e.pvs z with z | z
    · exact e.live a u q pl l z
    · rw [z, h0] at q
      cases q
end
theorem wipe_none (σ : L2.St) : ∀ (vs : List Nat) (i : Nat), i ∈ vs → (L2.wipe σ vs).set i none = L2.wipe σ vs
  | [], i, h => by simp at h
  | v :: vs, i, h => by
    show ((L2.wipe σ vs).set v none).set i none = (L2.wipe σ vs).set v none
    by_cases e : v = i
    · subst e
      rw [List.set_set]
    · have hm : i ∈ vs := (List.mem_cons.mp h).elim (fun z => absurd z.symm e) id
      rw [List.set_comm _ _ e, wipe_none σ vs i hm]
theorem wipe_wipe (σ : L2.St) (vs : List Nat) : ∀ ws : List Nat, (∀ i ∈ ws, i ∈ vs) → L2.wipe (L2.wipe σ vs) ws = L2.wipe σ vs
  | [], _ => rfl
  | w :: ws, h => by
    show (L2.wipe (L2.wipe σ vs) ws).set w none = _
    rw [wipe_wipe σ vs ws fun i hi => h i (List.mem_cons_of_mem _ hi)]
    exact wipe_none σ vs w (h w List.mem_cons_self)
abbrev WF : WX := fun _ _ _ _ => False
section
variable {X : Cx} {fl : Str → List Str} {Wx : WX} {tg iter elt : Expr} {ifs : List Expr} {scope : Scope} {own : List (Str × Nat)} {g : GM} {mi : IM} {mt : TM} {me : EM} {mA : AM} {pos : Pos} {vs : List Nat}
abbrev DTs (X : Cx) (fl : Str → List Str) (Wx : WX) (es : List Expr) (m : TM) : Prop := PTs X es (tDT (XT X fl) Wx m)
theorem dts_nil : DTs X fl Wx [] tYesM := ⟨fun pins s σ H Q I ⟨ρ, δ, st, m, en, h⟩ => pts_nil.run pins s σ H Q I (h ρ H .refl m)⟩
theorem dts_one {c : Expr} (h : DT X fl Wx c mt) : DTs X fl Wx [c] mt := pts_one h
theorem Post.nox_inv {α : Type} {T : Tab} {ρ : Rho} {st : Store} {H : Hp} {σ : L2.St} {P : α → Rho → Store → Hp → Prop} {m : M α} (h : Post T ρ st H σ Wx P (nox m st)) : Post T ρ st H σ WF P (m st) := by
  unfold nox at h
  cases q : m st with
  | ok v st' => rw [q] at h; exact h
  | exc c d st' => rw [q] at h; exact False.elim h
  | stuck => rw [q] at h; exact h
theorem go_lc {σ : L2.St} {H : Hp} {P : List D → Rho → Store → Hp → Prop} {Q : V → Hp → Prop}
    (hP : ∀ ds ρ1 st1 H1 D accV, P ds ρ1 st1 H1 → H1 D = some (.lst accV) → ¬ Live ρ1 st1 D → D ∉ ρ1.ix → Mt (XT X fl) ρ1 st1 H1 → RAll (XT X fl) ρ1 st1 H1 ds accV → Q (.ref D) H1)
    (h : At (XT X fl) σ H fun ρ δ st => Post (XT X fl) ρ st H σ Wx P (aComp vs mi g mt me δ st)) :
    tLc (tDI (XT X fl) Wx mi) (tDG (XT X fl) vs g) (tDT (XT X fl) WF mt) (tD (XT X fl) WF me) vs σ H Q := by
  obtain ⟨ρ, δ, st, m, en, h⟩ := h
  refine ⟨ρ, δ, st, m, en, (Post.bind h).monoE fun p ρ1 st1 H1 e1 m1 h1 J jo D hD => ?_⟩
  obtain ⟨ds, gd⟩ := p
  by_cases hl : ds.length ≤ sizeLine
  case neg =>
    rw [if_neg hl] at h1
    exact False.elim h1
  rw [if_pos hl] at h1
  have nD : ¬ ρ1.pv D := fun z => by
    obtain ⟨o, q⟩ := m1.ptr D z
    rw [hD] at q
    cases q
  -- what is left to be made comes to its end
  have hfin : ∃ ys st3, compL gd ds g mt me (wipeD δ vs) ds st1 = .ok ys st3 ∧ ∀ ρ3 H3 accV', Ext ρ1 st1 H1 ρ3 st3 H3 → ρ3.pv D → Mt (XT X fl) ρ3 st3 H3 → H3 D = some (.lst accV') → RAll (XT X fl) ρ3 st3 H3 ([] ++ ys) accV' → Q (.ref D) H3 := by
    unfold nox at h1
    cases q : compL gd ds g mt me (wipeD δ vs) ds st1 with
    | stuck => rw [q] at h1; exact False.elim h1
    | exc c d st' => rw [q] at h1; exact False.elim h1
    | ok ys st3 =>
      rw [q] at h1
      refine ⟨ys, st3, rfl, fun ρ3 H3 accV' e3 hpv m3 h3 r3 => ?_⟩
      have m3' := m3.unh e3.pvs
      refine hP ys (ρ3.unh ρ1.pv) st3 H3 D accV' (h1 _ H3 e3.unh m3') h3 (fun z => ?_) (m3.dj D hpv) m3' (r3.unh e3.pvs _ _)
      rcases z with ⟨j, o, z1, _⟩ | z
      · exact m3.dj D hpv (List.mem_of_getElem? z1)
      · exact nD z
  refine ⟨fun i mm H2 => mm = ds.length - i ∧ i ≤ ds.length ∧ ∃ ρ2 st2 acc accV, Ext ρ1 st1 H1 ρ2 st2 H2 ∧ ρ2.pv D ∧ Mt (XT X fl) ρ2 st2 H2 ∧ acc.length ≤ i ∧ H2 D = some (.lst accV) ∧ RAll (XT X fl) ρ2 st2 H2 acc accV ∧
      ∃ ys st3, compL gd ds g mt me (wipeD δ vs) (ds.drop i) st2 = .ok ys st3 ∧ ∀ ρ3 H3 accV', Ext ρ1 st1 H1 ρ3 st3 H3 → ρ3.pv D → Mt (XT X fl) ρ3 st3 H3 → H3 D = some (.lst accV') → RAll (XT X fl) ρ3 st3 H3 (acc ++ ys) accV' → Q (.ref D) H3,
    ⟨ds.length, rfl, Nat.zero_le _, ρ1.hid D, st1, [], [], Ext.hide m1 hD, .inr rfl, m1.hide hD, Nat.le_refl _, upd_same, RAll.nil, by rw [List.drop_zero]; exact hfin⟩, ?_⟩
  rintro i mm H2 ⟨rfl, hi, ρ2, st2, acc, accV, e2, hpv, m2, hacc, hDv, rac, ys, st3, hq, fin⟩
  by_cases hlt : i < ds.length
  · have hd : ds.drop i = ds[i] :: ds.drop (i + 1) := List.drop_eq_getElem_cons hlt
    rw [hd] at hq
    have gk : GdOk gd ds st2 := by
      intro n en
      subst en
      simp only [compL, chk] at hq
      by_cases e : st2[n]? = some (.lst ds)
      · exact e
      · rw [if_neg e] at hq
        cases hq
    have hq2 : (match g ds[i] (wipeD δ vs) with
        | none => M.stuck
        | some δ1 => mt δ1 >>= fun b => if b = true then me δ1 >>= fun y => compL gd ds g mt me (wipeD δ vs) (ds.drop (i + 1)) >>= fun ys => pure (y :: ys) else compL gd ds g mt me (wipeD δ vs) (ds.drop (i + 1))) st2 = .ok ys st3 := by
      cases gd with
      | none => exact hq
      | some n =>
        simp only [compL, chk] at hq
        rw [if_pos (gk n rfl)] at hq
        exact hq
    obtain ⟨go, yl⟩ := jo.go ρ2 st2 H2 e2 m2 gk i ds[i] (List.getElem?_eq_getElem hlt)
    refine .inr ⟨go, fun H' => ∃ ρ2 st2 acc accV, Ext ρ1 st1 H1 ρ2 st2 H' ∧ ρ2.pv D ∧ Mt (XT X fl) ρ2 st2 H' ∧ acc.length ≤ i + 1 ∧ H' D = some (.lst accV) ∧ RAll (XT X fl) ρ2 st2 H' acc accV ∧
      ∃ ys st3, compL gd ds g mt me (wipeD δ vs) (ds.drop (i + 1)) st2 = .ok ys st3 ∧ ∀ ρ3 H3 accV', Ext ρ1 st1 H1 ρ3 st3 H3 → ρ3.pv D → Mt (XT X fl) ρ3 st3 H3 → H3 D = some (.lst accV') → RAll (XT X fl) ρ3 st3 H3 (acc ++ ys) accV' → Q (.ref D) H3,
      fun H' ⟨ρ3, st3, q⟩ => ⟨ds.length - (i + 1), by omega, rfl, hlt, ρ3, st3, q⟩, fun x H3 y => ?_⟩
    obtain ⟨e3, m3, r3⟩ := yl x H3 y
    cases qg : g ds[i] (wipeD δ vs) with
    | none => rw [qg] at hq2; cases hq2
    | some δ1 =>
      rw [qg] at hq2
      dsimp only at hq2
      rw [bind_eq] at hq2
      have en2 := (((en.ext e1).wipe vs).ext e2).ext e3
      refine ⟨ρ2, _, st2, ds[i], δ1, m3, en2, r3, qg, fun σ1 hw en1 => ⟨hw.trans (wipe_wipe σ vs vs fun _ h => h), ρ2, δ1, st2, m3, en1, ?_⟩⟩
      cases qt : mt δ1 st2 with
      | stuck => rw [qt] at hq2; cases hq2
      | exc c d st' => rw [qt] at hq2; cases hq2
      | ok b st4 =>
        rw [qt] at hq2
        show Post (XT X fl) ρ2 st2 H3 σ1 WF _ (mt δ1 st2)
        rw [qt]
        intro ρ4 H4 e4 m4
        have e14 := (e2.trans e3).trans e4
        have hD4 : H4 D = some (.lst accV) := (e4.hid D hpv).trans ((e3.hid D hpv).trans hDv)
        have rac4 := (rac.ext e3 _ _).ext e4 _ _
        have hpv4 := e4.pvs D hpv
        cases b with
        | false =>
          refine iteF ?_
          exact ⟨ρ4, st4, acc, accV, e14, hpv4, m4, by omega, hD4, rac4, ys, st3, hq2, fin⟩
        | true =>
          refine iteT ?_
          have hq3 : (me δ1 >>= fun y => compL gd ds g mt me (wipeD δ vs) (ds.drop (i + 1)) >>= fun ys => pure (y :: ys)) st4 = .ok ys st3 := hq2
          rw [bind_eq] at hq3
          refine ⟨ρ4, δ1, st4, m4, en1.ext e4, ?_⟩
          cases qe : me δ1 st4 with
          | stuck => rw [qe] at hq3; cases hq3
          | exc c d st' => rw [qe] at hq3; cases hq3
          | ok y st5 =>
            rw [qe] at hq3
            show Post (XT X fl) ρ4 st4 H4 σ1 WF _ (me δ1 st4)
            rw [qe]
            intro ρ5 H5 e5 m5 z rz
            have hD5 : H5 D = some (.lst accV) := (e5.hid D hpv4).trans hD4
            have hpv5 := e5.pvs D hpv4
            have rac5 := rac4.ext e5 _ _
            refine ⟨accV, hD5, by have := rac5.length; omega, ρ5, st5, acc ++ [y], accV ++ [z], Ext.chg m1 hD (e14.trans e5), hpv5, m5.chg hpv5, by simp; omega, upd_same, (rac5.append (RAll.cons rz RAll.nil)).chg hpv5 _ _, ?_⟩
            have hq4 : (compL gd ds g mt me (wipeD δ vs) (ds.drop (i + 1)) >>= fun ys => (pure (y :: ys) : M (List DL.D))) st5 = .ok ys st3 := hq3
            rw [bind_eq] at hq4
            cases qr : compL gd ds g mt me (wipeD δ vs) (ds.drop (i + 1)) st5 with
            | stuck => rw [qr] at hq4; cases hq4
            | exc c d st' => rw [qr] at hq4; cases hq4
            | ok ys' st6 =>
              rw [qr] at hq4
              have e6 : ys = y :: ys' ∧ st3 = st6 := by
                injection hq4 with a b
                exact ⟨a.symm, b.symm⟩
              obtain ⟨rfl, rfl⟩ := e6
              refine ⟨ys', st3, rfl, fun ρ3 H3 accV' a1 a2 a3 a4 a5 => fin ρ3 H3 accV' a1 a2 a3 a4 ?_⟩
              rw [List.append_assoc] at a5
              exact a5
  · have e : i = ds.length := by omega
    subst e
    rw [List.drop_length] at hq
    have gk : GdOk gd ds st2 := by
      intro n en
      subst en
      simp only [compL, chk] at hq
      by_cases e : st2[n]? = some (.lst ds)
      · exact e
      · rw [if_neg e] at hq
        cases hq
    have hq2 : (pure [] : M (List DL.D)) st2 = .ok ys st3 := by
      cases gd with
      | none => exact hq
      | some n =>
        simp only [compL, chk] at hq
        rw [if_pos (gk n rfl)] at hq
        exact hq
    have e6 : ys = [] ∧ st3 = st2 := by
      injection hq2 with a b
      exact ⟨a.symm, b.symm⟩
    obtain ⟨rfl, rfl⟩ := e6
    exact .inl ⟨jo.stop ρ2 st3 H2 e2 m2 gk _ (Nat.le_refl _), fin ρ2 H2 accV e2 hpv m2 hDv (by rw [List.append_nil]; exact rac)⟩
theorem de_lc (hc : X.calm = true) (hN : X.N.Nodup) (hi : DI X fl Wx tg iter mi) (ok : BlkOk X.N X.env.scope scope own) (hv : own.map (·.2) = vs)
    (hg : ∀ (s : Shared) (H : Hp) (C : Addr) (cl : List (Str × Addr)) (fp : List Addr), DG (X.blk s H scope (compEnvC scope cl C X.env) fp) fl vs tg g) (ht : ∀ (s : Shared) (H : Hp) (C : Addr) (cl : List (Str × Addr)) (fp : List Addr), DTs (X.blk s H scope (compEnvC scope cl C X.env) fp) fl WF ifs mt)
    (he : ∀ (s : Shared) (H : Hp) (C : Addr) (cl : List (Str × Addr)) (fp : List Addr), DE (X.blk s H scope (compEnvC scope cl C X.env) fp) fl WF elt me) (hs : ∀ x, foldedSetIterable iter X.env x = pure x := by intro _; rfl) :
    DE X fl Wx (.ListComp elt [⟨tg, iter, ifs, 0⟩] scope pos) (eComp vs mi g mt me) := by
  subst hv
  refine pe_imp (pe_lc (g := tDG (XT X fl) (own.map (·.2)) g) (tt := tDT (XT X fl) WF mt) (te := tD (XT X fl) WF me) hc hN hi ok hg ht he hs) fun σ H Q ⟨ρ, δ, st, m, en, h⟩ => ?_
  refine go_lc (P := fun ds ρ1 st1 H1 => ∀ x, R (XT X fl) ρ1 st1 H1 (.lst ds) x → Q x H1) (fun ds ρ1 st1 H1 D accV hp hD nl _ m1 r => hp _ ?_) ⟨ρ, δ, st, m, en, (Post.bind h).monoE fun ds ρ1 st1 H1 e1 m1 h1 => h1 ρ1 H1 .refl m1⟩
  · simp only [R]
    exact ⟨D, accV, rfl, hD, nl, r⟩
end
end DL
/-! DL5: what is walked; values: numbers, rows, tuples. -/
namespace DL
open PySem PySem.Spec PyProof.Rows L2

/-! ### rows -/
def seqOf (st : Store) : D → Option (List D)
  | .lst ds => some ds
  | .tup ds => some ds
  | .ref n => match st[n]? with
    | some (.lst ds) => some ds
    | _ => none
  | _ => none
section
variable {T : Tab} {ρ : Rho} {st : Store} {H : Hp}
theorem R.tup_of {ds : List D} {x : V} (h : R T ρ st H (.tup ds) x) : ∃ a vs, x = .ref a ∧ SqT T.K H a vs ∧ RAll T ρ st H ds vs := by
  simp only [R] at h
  obtain ⟨a, vs, e, q, r⟩ := h
  exact ⟨a, vs, e, q.elim (fun z => SqT.of z.1) .inr, r⟩
theorem R.lst_of {ds : List D} {x : V} (h : R T ρ st H (.lst ds) x) : ∃ a vs, x = .ref a ∧ H a = some (.lst vs) ∧ RAll T ρ st H ds vs := by
  simp only [R] at h
  obtain ⟨a, vs, e, q, _, r⟩ := h
  exact ⟨a, vs, e, q, r⟩
theorem Mt.at_ (m : Mt T ρ st H) {n : Nat} {x : V} {o : SO} (h : R T ρ st H (.ref n) x) (q : st[n]? = some o) : ∃ a, x = .ref a ∧ ρ.ix[n]? = some a ∧ RObj T ρ st H o a := by
  simp only [R] at h
  obtain ⟨a, e, hn⟩ := h
  exact ⟨a, e, hn, m.obj n a o hn q⟩
theorem seq_ok (m : Mt T ρ st H) {d : D} {x : V} {ds : List D} (r : R T ρ st H d x) (h : seqOf st d = some ds) : ∃ a vs, x = .ref a ∧ (SqL T.K H a vs ∨ SqT T.K H a vs) ∧ RAll T ρ st H ds vs := by
  cases d with
  | lst es =>
    obtain rfl : es = ds := Option.some.inj h
    obtain ⟨a, vs, e, q, r⟩ := r.lst_of
    exact ⟨a, vs, e, .inl (SqL.of q), r⟩
  | tup es =>
    obtain rfl : es = ds := Option.some.inj h
    obtain ⟨a, vs, e, q, r⟩ := r.tup_of
    exact ⟨a, vs, e, .inr q, r⟩
  | ref n =>
    simp only [seqOf] at h
    cases q : st[n]? with
    | none => rw [q] at h; cases h
    | some o =>
      rw [q] at h
      cases o with
      | lst es =>
        obtain rfl : es = ds := Option.some.inj h
        obtain ⟨a, e, _, vs, hq, r⟩ := m.at_ r q
        exact ⟨a, vs, e, .inl (SqL.of hq), r⟩
      | _ => cases h
  | _ => cases h
theorem RAll.map {α : Type} {f : α → D} {g : α → V} (h : ∀ a x, R T ρ st H (f a) x → x = g a) : ∀ {as : List α} {vs : List V}, RAll T ρ st H (as.map f) vs → vs = as.map g
  | [], vs, r => by simpa [RAll] using r
  | a :: as, vs, r => by
    simp only [List.map_cons, RAll] at r
    obtain ⟨x, xs, e, h1, h2⟩ := r
    rw [e, h a x h1, RAll.map h h2]
    rfl
theorem RAll.of_map {α : Type} {f : α → D} {g : α → V} (h : ∀ a, R T ρ st H (f a) (g a)) : ∀ {as : List α}, RAll T ρ st H (as.map f) (as.map g)
  | [] => by simp only [List.map_nil, RAll]
  | a :: as => by
    simp only [List.map_cons]
    exact .cons (h a) (RAll.of_map h)
end

/-! ### what is walked -/
def itSeq (m : EM) : IM := fun δ => m δ >>= fun d st => match d with
  | .lst ds => .ok (ds, none) st
  | .tup ds => .ok (ds, none) st
  | .ref n => match st[n]? with
    | some (.lst ds) => .ok (ds, some n) st
    | _ => .stuck
  | _ => .stuck
def rangeD (lo : Int) (n : Nat) : List D := (List.range n).map fun (i : Nat) => D.int (lo + (i : Int))
def itRange1 (m : EM) : IM := fun δ => m δ >>= fun d => match d with
  | .int j => if -(2 ^ 62) ≤ j ∧ j < 2 ^ 62 then pure (rangeD 0 j.toNat, none) else M.stuck
  | _ => M.stuck
def itRange2 (a b : EM) : IM := fun δ => a δ >>= fun d => b δ >>= fun e => match d, e with
  | .int i, .int j => if -(2 ^ 62) ≤ i ∧ i < 2 ^ 62 ∧ -(2 ^ 62) ≤ j ∧ j < 2 ^ 62 then pure (rangeD i (j - i).toNat, none) else M.stuck
  | _, _ => M.stuck
section
variable {T : Tab} {ρ : Rho} {st : Store} {H : Hp}
theorem jok_range {lo : Int} {n : Nat} : JOk T ρ st H (Itr lo n) (rangeD lo n) none := by
  refine ⟨fun ρ2 st2 H2 e m _ i d hd => ?_, fun ρ2 st2 H2 e m _ i hi => ?_⟩
  · unfold rangeD at hd
    rw [List.getElem?_map] at hd
    cases q : (List.range n)[i]? with
    | none => rw [q] at hd; cases hd
    | some j =>
      rw [q] at hd
      have hi : i < n := by
        have := (List.getElem?_eq_some_iff.mp q).1
        simpa using this
      rw [List.getElem?_range hi] at q
      cases q
      cases hd
      refine ⟨hi, fun x H3 ⟨e1, e2⟩ => ?_⟩
      subst e1
      subst e2
      exact ⟨.refl, m, R.int⟩
  · have h : (rangeD lo n).length = n := by simp [rangeD]
    show n ≤ i
    omega
theorem jok_list {a : Addr} {ds : List D} {vs : List V} {K : PySem.W.Frag} (hK : T.K = K) (ha : H a = some (.lst vs)) (l : ¬ Live ρ st a) (r : RAll T ρ st H ds vs) : JOk T ρ st H (Itl K a) ds none := by
  refine ⟨fun ρ2 st2 H2 e m _ i d hd => ?_, fun ρ2 st2 H2 e m _ i hi => ?_⟩
  · have h2 := e.stay a _ ha plain_lst l
    obtain ⟨x, hx, rx⟩ := r.get hd
    refine ⟨⟨vs, x, SqL.of h2, hx⟩, fun y H3 ⟨e1, e2⟩ => ?_⟩
    subst e1
    have := e2 vs (SqL.of h2)
    rw [hx] at this
    cases this
    exact ⟨.refl, m, rx.ext e _ _⟩
  · have h2 := e.stay a _ ha plain_lst l
    exact ⟨vs, SqL.of h2, by rw [← r.length]; exact hi⟩
theorem jok_tup {a : Addr} {ds : List D} {vs : List V} {K : PySem.W.Frag} (hK : T.K = K) (ha : (H a = some (.tup vs) ∧ ¬ Live ρ st a) ∨ KTup K a vs) (r : RAll T ρ st H ds vs) : JOk T ρ st H (Itt K a) ds none := by
  have tup2 : ∀ {ρ2 st2 H2}, Ext ρ st H ρ2 st2 H2 → SqT K H2 a vs := fun e => by
    rcases ha with ⟨h, l⟩ | k
    · exact SqT.of (e.stay a _ h plain_tup l)
    · exact .inr k
  refine ⟨fun ρ2 st2 H2 e m _ i d hd => ?_, fun ρ2 st2 H2 e m _ i hi => ?_⟩
  · have h2 := tup2 e
    obtain ⟨x, hx, rx⟩ := r.get hd
    refine ⟨⟨vs, x, h2, hx⟩, fun y H3 ⟨e1, e2⟩ => ?_⟩
    subst e1
    have := e2 vs h2
    rw [hx] at this
    cases this
    exact ⟨.refl, m, rx.ext e _ _⟩
  · exact ⟨vs, tup2 e, by rw [← r.length]; exact hi⟩
/-- a list of the store, as long as it stays -/
theorem jok_ref {n : Nat} {a : Addr} {ds : List D} {K : PySem.W.Frag} (ha : ρ.ix[n]? = some a) : JOk T ρ st H (Itl K a) ds (some n) := by
  refine ⟨fun ρ2 st2 H2 e m g i d hd => ?_, fun ρ2 st2 H2 e m g i hi => ?_⟩
  · obtain ⟨vs, h2, r⟩ := m.obj n a _ (e.pre n a ha) (g n rfl)
    obtain ⟨x, hx, rx⟩ := r.get hd
    refine ⟨⟨vs, x, SqL.of h2, hx⟩, fun y H3 ⟨e1, e2⟩ => ?_⟩
    subst e1
    have := e2 vs (SqL.of h2)
    rw [hx] at this
    cases this
    exact ⟨.refl, m, rx⟩
  · obtain ⟨vs, h2, r⟩ := m.obj n a _ (e.pre n a ha) (g n rfl)
    exact ⟨vs, SqL.of h2, by rw [← r.length]; exact hi⟩
end
section
variable {X : Cx} {fl : Str → List Str} {Wx : WX} {tg e a b : Expr} {m ma mb : EM} {p pos : Pos}
/-- a list or a tuple, as it comes -/
def iSeq (K : PySem.W.Frag) (tl : TE) : TI := fun σ H R => tl σ H fun x H1 => ∃ a, x = .ref a ∧ (((∃ xs, SqL K H1 a xs) ∧ R (Itl K a) H1) ∨ ((∃ xs, SqT K H1 a xs) ∧ R (Itt K a) H1))
theorem pi_seq {l : Expr} {tl : TE} (hl : PE X l tl) : PI X tg l (iSeq X.K tl) := by
  refine ⟨fun pins s σ H R I h => ?_⟩
  refine thn (hl.run pins s σ H _ I h) fun v s1 ⟨x, H1, I1, r1, q1⟩ => ?_
  obtain ⟨a, e, q⟩ := q1
  subst e
  cases r1
  rcases q with ⟨⟨xs, hq⟩, q⟩ | ⟨⟨xs, hq⟩, q⟩
  · obtain ⟨its, rv, p, hz⟩ := I1.list hq
    refine wpAny_pyIter_list p.isList ?_
    refine ⟨s1.heap.objs.size, [s1.heap.objs.size], _, _, H1, rfl, I1.kept (t' := s1.toks) fun b o e => Heap.get?_push_of_some _ e, turn_list a _, ⟨_, Heap.get?_push_size _ rfl, rfl, rfl⟩, fun b hb => ?_, q⟩
    have e : b = s1.heap.objs.size := by simpa using hb
    subst e
    exact I1.fpOk (Nat.le_refl _) (I1.hok.fresh (Nat.le_refl _))
  · obtain ⟨its, rv, p, hz⟩ := I1.tuple hq
    refine wpAny_pyIter_tuple (show s1.heap.IsTuple a its.toArray from p) ?_
    refine ⟨s1.heap.objs.size, [s1.heap.objs.size], _, _, H1, rfl, I1.kept (t' := s1.toks) fun b o e => Heap.get?_push_of_some _ e, turn_tuple a _, ⟨_, Heap.get?_push_size _ rfl, rfl, rfl⟩, fun b hb => ?_, q⟩
    have e : b = s1.heap.objs.size := by simpa using hb
    subst e
    exact I1.fpOk (Nat.le_refl _) (I1.hok.fresh (Nat.le_refl _))
theorem di_seq (h : DE X fl Wx e m) : DI X fl Wx tg e (itSeq m) := by
  refine pi_imp (pi_seq h) fun σ H Rr ⟨ρ, δ, st, mt, en, h⟩ => ?_
  refine ⟨ρ, δ, st, mt, en, (Post.bind h).monoE fun d ρ1 st1 H1 e1 m1 h1 x rx => ?_⟩
  cases d with
  | lst ds =>
    simp only [R] at rx
    obtain ⟨a, vs, ex, q, l, r⟩ := rx
    exact ⟨a, ex, .inl ⟨⟨vs, SqL.of q⟩, h1 ρ1 H1 .refl m1 _ (jok_list rfl q l r)⟩⟩
  | tup ds =>
    simp only [R] at rx
    obtain ⟨a, vs, ex, q, r⟩ := rx
    exact ⟨a, ex, .inr ⟨⟨vs, q.elim (fun z => SqT.of z.1) .inr⟩, h1 ρ1 H1 .refl m1 _ (jok_tup rfl q r)⟩⟩
  | ref n =>
    simp only at h1
    cases q : st1[n]? with
    | none => rw [q] at h1; exact False.elim h1
    | some o =>
      rw [q] at h1
      cases o with
      | lst ds =>
        obtain ⟨a, ex, hn, vs, hq, r⟩ := m1.at_ rx q
        exact ⟨a, ex, .inl ⟨⟨vs, SqL.of hq⟩, h1 ρ1 H1 .refl m1 _ (jok_ref hn)⟩⟩
      | _ => exact False.elim h1
  | _ => exact False.elim h1
theorem di_range1 (hg : Gl X "range") (hm : X.mg "range" = none) (ha : DE X fl Wx a ma) (hs : starEach [a] X.env = [(false, eval a X.env)] := by rfl) : DI X fl Wx tg (.Call (.Name "range" p) [a] [] pos) (itRange1 ma) := by
  refine pi_imp (pi_range1 hg hm (pa_cons ha pa_nil hs) hs) fun σ H Rr ⟨ρ, δ, st, mt, en, h⟩ => ?_
  refine ⟨ρ, δ, st, mt, en, (Post.bind h).monoE fun d ρ1 st1 H1 e1 m1 h1 x rx => ?_⟩
  cases d with
  | int j =>
    simp only at h1
    by_cases hj : -(2 ^ 62) ≤ j ∧ j < 2 ^ 62
    · rw [if_pos hj] at h1
      exact ⟨j, by rw [R.int_of rx], hj.1, hj.2, h1 ρ1 H1 .refl m1 _ jok_range⟩
    · rw [if_neg hj] at h1
      exact False.elim h1
  | _ => exact False.elim h1
theorem di_range2 (hg : Gl X "range") (hm : X.mg "range" = none) (ha : DE X fl Wx a ma) (hb : DE X fl Wx b mb) (hs : starEach [a, b] X.env = [(false, eval a X.env), (false, eval b X.env)] := by rfl) (hs2 : starEach [b] X.env = [(false, eval b X.env)] := by rfl) :
    DI X fl Wx tg (.Call (.Name "range" p) [a, b] [] pos) (itRange2 ma mb) := by
  refine pi_imp (pi_range2 hg hm (pa_cons ha (pa_cons hb pa_nil hs2) (by rw [hs, hs2])) hs hs2) fun σ H Rr ⟨ρ, δ, st, mt, en, h⟩ => ?_
  refine ⟨ρ, δ, st, mt, en, (Post.bind h).monoE fun d ρ1 st1 H1 e1 m1 h1 x rx => ?_⟩
  refine ⟨ρ1, δ, st1, m1, en.ext e1, (Post.bind h1).monoE fun d' ρ2 st2 H2 e2 m2 h2 y ry => ?_⟩
  cases d with
  | int i =>
    cases d' with
    | int j =>
      simp only at h2
      by_cases hj : -(2 ^ 62) ≤ i ∧ i < 2 ^ 62 ∧ -(2 ^ 62) ≤ j ∧ j < 2 ^ 62
      · rw [if_pos hj] at h2
        exact ⟨i, j, by rw [R.int_of rx, R.int_of ry], hj, h2 ρ2 H2 .refl m2 _ jok_range⟩
      · rw [if_neg hj] at h2
        exact False.elim h2
    | _ => exact False.elim h2
  | _ => exact False.elim h2
end

/-! ### numbers -/
def fAdd (st : Store) (d e : D) : Option D := match d, e with
  | .int i, .int j => some (.int (i + j))
  | .str i, .str j => if i.length + j.length ≤ sizeLine then some (.str (i ++ j)) else none
  | .tup xs, .tup ys => if xs.length + ys.length ≤ sizeLine then some (.tup (xs ++ ys)) else none
  | a, b => match a, b with
    | .tup _, _ => none
    | _, .tup _ => none
    | _, _ => match seqOf st a, seqOf st b with
      | some xs, some ys => if xs.length + ys.length ≤ sizeLine then some (.lst (xs ++ ys)) else none
      | _, _ => none
def fSub (_ : Store) (d e : D) : Option D := match d, e with
  | .int i, .int j => some (.int (i - j))
  | _, _ => none
def fFdiv (_ : Store) (d e : D) : Option D := match d, e with
  | .int i, .int j => if j ≠ 0 ∧ j.natAbs < 1073741824 then some (.int (i.fdiv j)) else none
  | _, _ => none
def fMod (_ : Store) (d e : D) : Option D := match d, e with
  | .int i, .int j => if j ≠ 0 then some (.int (i.fmod j)) else none
  | _, _ => none
def fPow (_ : Store) (d e : D) : Option D := match d, e with
  | .int i, .int j => if 0 ≤ j ∧ j ≤ 1000000 ∧ i.natAbs < 2 ^ 64 then some (.int (i ^ j.toNat)) else none
  | _, _ => none
def fMul (_ : Store) (d e : D) : Option D := match d, e with
  | .int i, .int j => if (-(2 ^ 64) < i ∧ i < 2 ^ 64) ∨ (-(2 ^ 64) < j ∧ j < 2 ^ 64) then some (.int (i * j)) else none
  | _, _ => none
def fNeg (_ : Store) (d : D) : Option D := match d with
  | .int i => some (.int (-i))
  | _ => none
def fCmp (f : Int → Int → Bool) (_ : Store) (d e : D) : Option D := match d, e with
  | .int i, .int j => some (.bl (f i j))
  | _, _ => none
section
variable {T : Tab}
theorem v2_int {C : Int → Int → Prop} {g : Int → Int → V} {f : Store → D → D → Option D} (hf : ∀ st d e v, f st d e = some v → ∃ i j, d = .int i ∧ e = .int j ∧ C i j ∧ ∀ ρ st H, R T ρ st H v (g i j)) : V2 T (rI C g) f := by
  intro ρ st H d d' x y v Q m rx ry h q
  obtain ⟨i, j, rfl, rfl, hc, hr⟩ := hf st d d' v h
  exact ⟨i, j, R.int_of rx, R.int_of ry, hc, q H _ .refl m (hr ρ st H)⟩
theorem v2_int0 {g : Int → Int → V} {f : Store → D → D → Option D} (hf : ∀ st d e v, f st d e = some v → ∃ i j, d = .int i ∧ e = .int j ∧ ∀ ρ st H, R T ρ st H v (g i j)) : V2 T (rI0 g) f := by
  intro ρ st H d d' x y v Q m rx ry h q
  obtain ⟨i, j, rfl, rfl, hr⟩ := hf st d d' v h
  exact ⟨i, j, R.int_of rx, R.int_of ry, q H _ .refl m (hr ρ st H)⟩
theorem v_sub : V2 T (rI0 fun i j => .int (i - j)) fSub := v2_int0 fun st d e v h => by
  unfold fSub at h
  split at h
  · cases h; exact ⟨_, _, rfl, rfl, fun _ _ _ => R.int⟩
  · cases h
theorem v_fdiv : V2 T (rI CDivN fun i j => .int (i.fdiv j)) fFdiv := v2_int fun st d e v h => by
  unfold fFdiv at h
  split at h
  · split at h
    · rename_i hc
      cases h; exact ⟨_, _, rfl, rfl, hc, fun _ _ _ => R.int⟩
    · cases h
  · cases h
theorem v_mod : V2 T (rI (fun _ j => j ≠ 0) fun i j => .int (i.fmod j)) fMod := v2_int fun st d e v h => by
  unfold fMod at h
  split at h
  · split at h
    · rename_i hc
      cases h; exact ⟨_, _, rfl, rfl, hc, fun _ _ _ => R.int⟩
    · cases h
  · cases h
theorem v_pow : V2 T (rI CPow fun i j => .int (i ^ j.toNat)) fPow := v2_int fun st d e v h => by
  unfold fPow at h
  split at h
  · split at h
    · rename_i hc
      cases h; exact ⟨_, _, rfl, rfl, hc, fun _ _ _ => R.int⟩
    · cases h
  · cases h
theorem v_mul : V2 T (rI CMul fun i j => .int (i * j)) fMul := v2_int fun st d e v h => by
  unfold fMul at h
  split at h
  · split at h
    · rename_i hc
      cases h; exact ⟨_, _, rfl, rfl, hc, fun _ _ _ => R.int⟩
    · cases h
  · cases h
theorem v_neg : V1 T (rU fun i => .int (-i)) fNeg := by
  intro ρ st H d x v Q m rx h q
  unfold fNeg at h
  split at h
  · cases h; exact ⟨_, R.int_of rx, q H _ .refl m R.int⟩
  · cases h
theorem v_cmp {f : Int → Int → Bool} : V2 T (rI0 fun i j => .bl (f i j)) (fCmp f) := v2_int0 fun st d e v h => by
  unfold fCmp at h
  split at h
  · cases h; exact ⟨_, _, rfl, rfl, fun _ _ _ => R.bl⟩
  · cases h
end
/-- + of ints, texts, tuples, lists -/
def rAddD (K : PySem.W.Frag) : R2 := fun x y H Q => (rI0 (fun i j => .int (i + j)) x y H Q) ∨ (∃ i j, x = .str i ∧ y = .str j ∧ i.length + j.length ≤ sizeLine ∧ Q (.str (i ++ j)) H) ∨ rCatT K x y H Q ∨ rCat x y H Q ∨
  (∃ a b ys, x = .ref a ∧ y = .ref b ∧ SqT K H a [] ∧ SqT K H b ys ∧ Q (.ref b) H)
end DL
/-! DL6: values: sums of rows, lengths, items, kinds, what is shown, what is equal. -/
namespace DL
open PySem PySem.Spec PyProof.Rows L2

theorem CallR.or {X : Cx} {f : Value} {r r' : List V → Hp → VK → Prop} (h : CallR X f r) (h' : CallR X f r') : CallR X f (fun xs H Q => r xs H Q ∨ r' xs H Q) := by
  intro pins s σ H xs us Q I rr q
  rcases q with q | q
  · exact h pins s σ H xs us Q I rr q
  · exact h' pins s σ H xs us Q I rr q

/-! ### lists that are lists -/
def lstOf (st : Store) : D → Option (List D)
  | .lst ds => some ds
  | .ref n => match st[n]? with
    | some (.lst ds) => some ds
    | _ => none
  | _ => none
section
variable {T : Tab} {ρ : Rho} {st : Store} {H : Hp}
theorem lst_ok (m : Mt T ρ st H) {d : D} {x : V} {ds : List D} (r : R T ρ st H d x) (h : lstOf st d = some ds) : ∃ a vs, x = .ref a ∧ H a = some (.lst vs) ∧ RAll T ρ st H ds vs := by
  cases d with
  | lst es =>
    obtain rfl : es = ds := Option.some.inj h
    exact r.lst_of
  | ref n =>
    simp only [lstOf] at h
    cases q : st[n]? with
    | none => rw [q] at h; cases h
    | some o =>
      rw [q] at h
      cases o with
      | lst es =>
        obtain rfl : es = ds := Option.some.inj h
        obtain ⟨a, e, _, vs, hq, r⟩ := m.at_ r q
        exact ⟨a, vs, e, hq, r⟩
      | _ => cases h
  | _ => cases h
/-- a new tuple, a new list that will not change -/
theorem new_tup (m : Mt T ρ st H) {ds : List D} {vs : List V} (r : RAll T ρ st H ds vs) {p : Addr} (hp : H p = none) : Ext ρ st H ρ st (upd H p (.tup vs)) ∧ Mt T ρ st (upd H p (.tup vs)) ∧ R T ρ st (upd H p (.tup vs)) (.tup ds) (.ref p) := by
  have e := Ext.new (ρ := ρ) (st := st) (o := .tup vs) m hp
  refine ⟨e, m.new hp, ?_⟩
  simp only [R]
  exact ⟨p, vs, rfl, .inl ⟨upd_same, m.notLive hp⟩, r.ext e _ _⟩
theorem new_lst (m : Mt T ρ st H) {ds : List D} {vs : List V} (r : RAll T ρ st H ds vs) {p : Addr} (hp : H p = none) : Ext ρ st H ρ st (upd H p (.lst vs)) ∧ Mt T ρ st (upd H p (.lst vs)) ∧ R T ρ st (upd H p (.lst vs)) (.lst ds) (.ref p) := by
  have e := Ext.new (ρ := ρ) (st := st) (o := .lst vs) m hp
  refine ⟨e, m.new hp, ?_⟩
  simp only [R]
  exact ⟨p, vs, rfl, upd_same, m.notLive hp, r.ext e _ _⟩
end

/-! ### + -/
def fPlus (st : Store) (d e : D) : Option D := match d, e with
  | .int i, .int j => some (.int (i + j))
  | .str i, .str j => if i.length + j.length ≤ sizeLine then some (.str (i ++ j)) else none
  | .tup xs, .tup ys => if xs.length + ys.length ≤ sizeLine then some (.tup (xs ++ ys)) else none
  | a, b => match lstOf st a, lstOf st b with
    | some xs, some ys => if xs.length + ys.length ≤ sizeLine then some (.lst (xs ++ ys)) else none
    | _, _ => none
def rPlus (K : PySem.W.Frag) : R2 := fun x y H Q => (rI0 (fun i j => V.int (i + j)) x y H Q) ∨ (∃ i j, x = .str i ∧ y = .str j ∧ i.length + j.length ≤ sizeLine ∧ Q (.str (i ++ j)) H) ∨ rCatA K x y H Q ∨ rCat x y H Q
theorem op_plus {X : Cx} : OpR X (binaryOp .Add) (rPlus X.K) := op_add.or (op_add_str.or (op_catA.or op_cat))
theorem v_plus {T : Tab} : V2 T (rPlus T.K) fPlus := by
  intro ρ st H d e x y v Q m rx ry h q
  unfold fPlus at h
  split at h
  · cases h
    exact .inl ⟨_, _, R.int_of rx, R.int_of ry, q H _ .refl m R.int⟩
  · split at h
    · rename_i hz
      cases h
      exact .inr (.inl ⟨_, _, R.str_of rx, R.str_of ry, hz, q H _ .refl m R.str⟩)
    · cases h
  · rename_i xs ys
    split at h
    · rename_i hz
      cases h
      obtain ⟨a, vs, ea, ha, ra⟩ := rx.tup_of
      obtain ⟨b, ws, eb, hb, rb⟩ := ry.tup_of
      refine .inr (.inr (.inl ⟨a, b, vs, ws, ea, eb, ha, hb, by rw [← ra.length, ← rb.length]; exact hz, fun z => ?_, fun _ z => ?_, fun _ _ p hp => ?_⟩))
      · subst z
        have hx : xs = [] := by have := ra.length; simpa using this
        rw [hx] at q
        exact q H _ .refl m (by rw [← eb]; exact ry)
      · subst z
        have hy : ys = [] := by have := rb.length; simpa using this
        rw [hy, List.append_nil] at q
        exact q H _ .refl m (by rw [← ea]; exact rx)
      · obtain ⟨e1, m1, r1⟩ := new_tup m (ra.append rb) hp
        exact q _ _ e1 m1 r1
    · cases h
  · split at h
    · rename_i xs ys hx hy
      split at h
      · rename_i hz
        cases h
        obtain ⟨a, vs, ea, ha, ra⟩ := lst_ok m rx hx
        obtain ⟨b, ws, eb, hb, rb⟩ := lst_ok m ry hy
        refine .inr (.inr (.inr ⟨a, b, vs, ws, ea, eb, ha, hb, by rw [← ra.length, ← rb.length]; exact hz, fun p hp => ?_⟩))
        obtain ⟨e1, m1, r1⟩ := new_lst m (ra.append rb) hp
        exact q _ _ e1 m1 r1
      · cases h
    · cases h

/-! ### len -/
def fLen (st : Store) (ds : List D) : Option D := match ds with
  | [.str s] => if s.length ≤ sizeLine then some (.int s.length) else none
  | [.ref n] => match st[n]? with
    | some (.lst xs) => some (.int xs.length)
    | some (.dk kvs) => some (.int kvs.length)
    | _ => none
  | [d] => (seqOf st d).map fun xs => .int xs.length
  | _ => none
def rLen (K : PySem.W.Frag) : List V → Hp → VK → Prop := fun xs H Q => (∃ x n, xs = [x] ∧ LenV K x H n ∧ Q (.int n) H) ∨ (∃ a kvs, xs = [V.ref a] ∧ H a = some (.dK kvs) ∧ Q (.int kvs.length) H)
theorem call_lenA {X : Cx} : CallR X (.builtin "len") (rLen X.K) := CallR.or call_len call_lenD
theorem RKV.length {κ : Type} {T : Tab} {ρ : Rho} {st : Store} {H : Hp} : ∀ {ds : List (κ × D)} {vs : List (κ × V)}, RKV T ρ st H ds vs → ds.length = vs.length
  | [], vs, h => by simp only [RKV] at h; rw [h]; rfl
  | (k, d) :: ds, vs, h => by
    obtain ⟨x, xs, e, _, t⟩ := h
    rw [e, List.length_cons, List.length_cons, RKV.length t]
theorem RAll.one {T : Tab} {ρ : Rho} {st : Store} {H : Hp} {d : D} {vs : List V} (h : RAll T ρ st H [d] vs) : ∃ x, vs = [x] ∧ R T ρ st H d x := by
  simp only [RAll] at h
  obtain ⟨x, xs, e, r, e2⟩ := h
  subst e2
  exact ⟨x, e, r⟩
theorem v_len {T : Tab} : VN T (rLen T.K) fLen := by
  intro ρ st H ds xs v Q m rx h q
  unfold fLen at h
  split at h
  · obtain ⟨x, rfl, r⟩ := rx.one
    split at h
    · rename_i hz
      cases h
      exact .inl ⟨_, _, rfl, by rw [R.str_of r]; exact ⟨hz, rfl⟩, q H _ .refl m R.int⟩
    · cases h
  · obtain ⟨x, rfl, r⟩ := rx.one
    split at h
    · rename_i hst
      cases h
      obtain ⟨a, e, _, vs, ha, ra⟩ := m.at_ r hst
      subst e
      exact .inl ⟨_, _, rfl, .inl ⟨vs, SqL.of ha, rfl⟩, q H _ .refl m (by rw [ra.length]; exact R.int)⟩
    · rename_i hst
      cases h
      obtain ⟨a, e, _, vs, ha, ra⟩ := m.at_ r hst
      subst e
      exact .inr ⟨a, vs, rfl, ha, q H _ .refl m (by rw [ra.length]; exact R.int)⟩
    · cases h
  · obtain ⟨x, rfl, r⟩ := rx.one
    rename_i d _ _
    cases hs : seqOf st d with
    | none => rw [hs] at h; cases h
    | some es =>
      rw [hs] at h
      cases h
      obtain ⟨a, vs, e, hq, ra⟩ := seq_ok m r hs
      subst e
      refine .inl ⟨_, vs.length, rfl, hq.elim (fun z => .inl ⟨vs, z, rfl⟩) fun z => .inr ⟨vs, z, rfl⟩, q H _ .refl m ?_⟩
      show R T ρ st H (.int es.length) _
      rw [ra.length]
      exact R.int
  · cases h

/-! ### items -/
def fItem (st : Store) (d e : D) : Option D := match e with
  | .int i => (seqOf st d).bind fun xs => atI xs i
  | _ => none
theorem RAll.atI {T : Tab} {ρ : Rho} {st : Store} {H : Hp} {ds : List D} {vs : List V} {i : Int} {d : D} (h : RAll T ρ st H ds vs) (e : L2.atI ds i = some d) : ∃ x, L2.atI vs i = some x ∧ R T ρ st H d x := by
  unfold L2.atI at e ⊢
  rw [← h.length]
  cases q : ixN ds.length i with
  | none => rw [q] at e; cases e
  | some j =>
    rw [q] at e
    exact h.get e
theorem v_item {T : Tab} : V2 T (rIx T.K) fItem := by
  intro ρ st H d e x y v Q m rx ry h q
  unfold fItem at h
  split at h
  · rename_i i
    cases hs : seqOf st d with
    | none => rw [hs] at h; cases h
    | some ds =>
      rw [hs] at h
      obtain ⟨a, vs, ea, hq, ra⟩ := seq_ok m rx hs
      obtain ⟨z, hz, rz⟩ := ra.atI h
      rcases hq with hq | hq
      · exact .inl ⟨a, vs, i, z, ea, R.int_of ry, hq, hz, q H _ .refl m rz⟩
      · exact .inr (.inl ⟨a, vs, i, z, ea, R.int_of ry, hq, hz, q H _ .refl m rz⟩)
  · cases h
section
variable {X : Cx} {fl : Str → List Str} {Wx : WX} {e a b : Expr} {es : List Expr} {ma mb : EM} {mA : AM} {p pos : Pos}
theorem de_item (ha : DE X fl Wx a ma) (hb : DE X fl Wx b mb) (hs : PlainIx b) : DE X fl Wx (.Subscript a b pos) (e2 fItem ma mb) :=
  pe_imp (pe_ix ix_seq ha hb hs) fun _ _ _ h => go2 v_item h
/-- a built-in function, a built-in class, called -/
theorem de_b {id : String} {x : Str} {r : List V → Hp → VK → Prop} {f : Store → List D → Option D} (hc : CallR X (.builtin id) r) (hv : VN (XT X fl) r f) (hg : Gl X x) (hm : X.mg x = none) (hvb : bootBuiltins x = some (.builtin id)) (ha : DA X fl Wx (e :: es) mA)
    (hn : x ≠ "__name__" := by decide) (hdb : (x == ("__debug__" : Str)) = false := by decide) (he : starEach (e :: es) X.env = (false, eval e X.env) :: starEach es X.env := by rfl) (hpl : (backTo pos (starEach es X.env)).any (·.1) = false := by rfl) :
    DE X fl Wx (.Call (.Name x p) (e :: es) [] pos) (eN f mA) :=
  pe_imp (pe_callB hc hg hm hvb ha hn hdb he hpl) fun _ _ _ h => goN hv h
theorem de_ty {id : String} {x : Str} {r : List V → Hp → VK → Prop} {f : Store → List D → Option D} (hc : CallR X (.type id) r) (hv : VN (XT X fl) r f) (hg : Gl X x) (hm : X.mg x = none) (hvb : bootBuiltins x = some (.type id)) (ha : DA X fl Wx (e :: es) mA)
    (hn : x ≠ "__name__" := by decide) (hdb : (x == ("__debug__" : Str)) = false := by decide) (he : starEach (e :: es) X.env = (false, eval e X.env) :: starEach es X.env := by rfl) (hpl : (backTo pos (starEach es X.env)).any (·.1) = false := by rfl) :
    DE X fl Wx (.Call (.Name x p) (e :: es) [] pos) (eN f mA) :=
  pe_imp (pe_callTy hc hg hm hvb ha hn hdb he hpl) fun _ _ _ h => goN hv h
end

/-! ### int(n), list(xs), tuple(xs) -/
def fInt (_ : Store) (ds : List D) : Option D := match ds with
  | [.int i] => some (.int i)
  | [.bl b] => some (.int (if b then 1 else 0))
  | _ => none
theorem v_int1 {T : Tab} : VN T (fun xs H Q => (∃ i, xs = [.int i] ∧ Q (.int i) H) ∨ ∃ k, xs = [.bl k] ∧ Q (.int (if k then 1 else 0)) H) fInt := by
  intro ρ st H ds xs v Q m rx h q
  unfold fInt at h
  split at h
  · obtain ⟨x, rfl, r⟩ := rx.one
    cases h
    exact .inl ⟨_, by rw [R.int_of r], q H _ .refl m R.int⟩
  · obtain ⟨x, rfl, r⟩ := rx.one
    cases h
    exact .inr ⟨_, by rw [R.bl_of r], q H _ .refl m R.int⟩
  · cases h
def fTuple (st : Store) (ds : List D) : Option D := match ds with
  | [d] => (seqOf st d).map .tup
  | _ => none
theorem v_tuple {T : Tab} : VN T (fun xs H Q => ∃ p ys, xs = [.ref p] ∧ ((SqL T.K H p ys ∧ ∀ l, H l = none → Q (.ref l) (upd H l (.tup ys))) ∨ (SqT T.K H p ys ∧ Q (.ref p) H))) fTuple := by
  intro ρ st H ds xs v Q m rx h q
  unfold fTuple at h
  split at h
  · rename_i d
    obtain ⟨x, rfl, r⟩ := rx.one
    cases d with
    | tup es =>
      cases h
      obtain ⟨a, vs, e, hq, ra⟩ := r.tup_of
      subst e
      exact ⟨a, vs, rfl, .inr ⟨hq, q H _ .refl m r⟩⟩
    | lst es =>
      cases h
      obtain ⟨a, vs, e, hq, ra⟩ := r.lst_of
      subst e
      refine ⟨a, vs, rfl, .inl ⟨SqL.of hq, fun p hp => ?_⟩⟩
      obtain ⟨e1, m1, r1⟩ := new_tup m ra hp
      exact q _ _ e1 m1 r1
    | ref n =>
      cases hs : seqOf st (.ref n) with
      | none => rw [hs] at h; cases h
      | some es =>
        rw [hs] at h
        cases h
        have hl : lstOf st (.ref n) = some es := hs
        obtain ⟨a, vs, e, hq, ra⟩ := lst_ok m r hl
        subst e
        refine ⟨a, vs, rfl, .inl ⟨SqL.of hq, fun p hp => ?_⟩⟩
        obtain ⟨e1, m1, r1⟩ := new_tup m ra hp
        exact q _ _ e1 m1 r1
    | _ => cases h
  · cases h
def fList (st : Store) (ds : List D) : Option D := match ds with
  | [d] => (seqOf st d).map .lst
  | _ => none
theorem v_list {T : Tab} : VN T (fun xs H Q => ∃ p ys, xs = [.ref p] ∧ (SqL T.K H p ys ∨ SqT T.K H p ys) ∧ ∀ l, H l = none → Q (.ref l) (upd H l (.lst ys))) fList := by
  intro ρ st H ds xs v Q m rx h q
  unfold fList at h
  split at h
  · rename_i d
    obtain ⟨x, rfl, r⟩ := rx.one
    cases hs : seqOf st d with
    | none => rw [hs] at h; cases h
    | some es =>
      rw [hs] at h
      cases h
      obtain ⟨a, vs, e, hq, ra⟩ := seq_ok m r hs
      subst e
      refine ⟨a, vs, rfl, hq, fun p hp => ?_⟩
      obtain ⟨e1, m1, r1⟩ := new_lst m ra hp
      exact q _ _ e1 m1 r1
  · cases h

/-! ### data: what is shown, what is equal -/
def mapO {α β : Type} (f : α → Option β) : List α → Option (List β)
  | [] => some []
  | a :: as => (f a).bind fun b => (mapO f as).map (b :: ·)
@[simp] theorem mapO_nil {α β : Type} (f : α → Option β) : mapO f [] = some [] := rfl
@[simp] theorem mapO_cons {α β : Type} (f : α → Option β) (a : α) (as : List α) : mapO f (a :: as) = (f a).bind fun b => (mapO f as).map (b :: ·) := rfl
def keyPy : Key → PyData
  | .inl i => .int i
  | .inr x => .str x
def toPy (st : Store) : Nat → D → Option PyData
  | 0, _ => none
  | _ + 1, .non => some .none
  | _ + 1, .bl b => some (.bool b)
  | _ + 1, .int i => some (.int i)
  | _ + 1, .str s => some (.str s)
  | n + 1, .tup ds => (mapO (toPy st n) ds).map .tuple
  | n + 1, .lst ds => (mapO (toPy st n) ds).map .list
  | n + 1, .ref k => match st[k]? with
    | some (.lst ds) => (mapO (toPy st n) ds).map .list
    | some (.dk kvs) => (mapO (fun p => (toPy st n p.2).map fun v => (keyPy p.1, v)) kvs).map .dict
    | _ => none
  | _, _ => none
/-- sys.modules is part of the ground -/
def SysB (base : Heap) : Prop := ∃ o, base.get? sysModules = some o
theorem SysB.ne {X : Cx} {pins : List (Addr × Obj)} {σ : L2.St} {H : Hp} {s : Shared} (hS : SysB X.base) (I : Inv X pins σ H s) {a : Addr} {o : HO} (h : H a = some o) : sysModules ≠ a := fun z => by
  obtain ⟨u, q⟩ := hS
  have := (I.bs _ u q).2
  rw [z, h] at this
  cases this
section
variable {X : Cx} {fl : Str → List Str} {pins : List (Addr × Obj)} {σ : L2.St} {ρ : Rho} {st : Store} {H : Hp} {s : Shared}
theorem reads_entries {P : Program} {w : World} {f : D → Option PyData}
    (item : ∀ (d : D) (x : V) (u : Value) (p : PyData), R (XT X fl) ρ st H d x → RelV x u → f d = some p → ∃ as, Reads s.heap u p as ∧ sysModules ∉ as) :
    ∀ {kvs : List (Key × D)} {xs : List (Key × V)} {vs : List (Key × Value)} {es : List DictEntry} {ps : List (PyData × PyData)}, RKV (XT X fl) ρ st H kvs xs → KV xs vs → Pairs (mixKind P w) es vs → mapO (fun p : Key × D => (f p.2).map fun v => (keyPy p.1, v)) kvs = some ps →
      ∃ bs, ReadsAll s.heap (es.map (·.key)) (ps.map (·.1)) [] ∧ ReadsAll s.heap (es.map (·.val)) (ps.map (·.2)) bs ∧ sysModules ∉ bs := by
  intro kvs
  induction kvs with
  | nil =>
    intro xs vs es ps h1 h2 h3 h4
    simp only [RKV] at h1
    subst h1
    cases h2
    cases h3
    simp only [mapO_nil, Option.some.injEq] at h4
    subst h4
    exact ⟨[], .nil, .nil, fun z => by cases z⟩
  | cons p kvs ih =>
    intro xs vs es ps h1 h2 h3 h4
    obtain ⟨k, d⟩ := p
    obtain ⟨x, xs', e1, rx, rxs⟩ := h1
    subst e1
    cases h2 with
    | @cons a b l₁ l₂ h2 h2s =>
      obtain ⟨k', u⟩ := b
      obtain ⟨rfl, ru⟩ := h2
      cases h3 with
      | cons h3 hv h3s =>
        rename_i e es'
        rw [mapO_cons] at h4
        cases q : f d with
        | none => rw [q] at h4; cases h4
        | some pd =>
          rw [q] at h4
          cases q2 : mapO (fun p : Key × D => (f p.2).map fun v => (keyPy p.1, v)) kvs with
          | none => rw [q2] at h4; cases h4
          | some ps' =>
            rw [q2] at h4
            cases h4
            obtain ⟨bs, r1, r2, r3⟩ := ih rxs h2s h3s q2
            obtain ⟨as, g1, g2⟩ := item d x u pd rx ru q
            refine ⟨as ++ bs, ?_, ?_, fun hm => ?_⟩
            · have hk : Reads s.heap e.key (keyPy k) [] := by
                rcases keyIs_shape (show keyIs k e.key = true from h3) with ⟨i, t, rfl, e2⟩ | ⟨i, t, rfl, e2⟩
                · rw [e2]; exact Reads.int i t
                · rw [e2]; exact Reads.str i t
              exact ReadsAll.cons (as := []) hk r1
            · have hv' : e.val = u := hv
              rw [List.map_cons, List.map_cons, hv']
              exact ReadsAll.cons g1 r2
            · rcases List.mem_append.mp hm with hm | hm
              · exact g2 hm
              · exact r3 hm
theorem reads_all {f : D → Option PyData}
    (item : ∀ (d : D) (x : V) (u : Value) (p : PyData), R (XT X fl) ρ st H d x → RelV x u → f d = some p → ∃ as, Reads s.heap u p as ∧ sysModules ∉ as) :
    ∀ {ds : List D} {xs : List V} {us : List Value} {ps : List PyData}, RAll (XT X fl) ρ st H ds xs → Vals xs us → mapO f ds = some ps → ∃ as, ReadsAll s.heap us ps as ∧ sysModules ∉ as
  | [], xs, us, ps, h1, h2, h3 => by
    simp only [RAll] at h1
    subst h1
    cases h2
    simp only [mapO_nil, Option.some.injEq] at h3
    subst h3
    exact ⟨[], .nil, fun z => by cases z⟩
  | d :: ds, xs, us, ps, h1, h2, h3 => by
    simp only [RAll] at h1
    obtain ⟨x, xs', e1, rx, rxs⟩ := h1
    subst e1
    cases h2 with
    | cons r2 r2s =>
      rw [mapO_cons] at h3
      cases q : f d with
      | none => rw [q] at h3; cases h3
      | some pd =>
        rw [q] at h3
        cases q2 : mapO f ds with
        | none => rw [q2] at h3; cases h3
        | some ps' =>
          rw [q2] at h3
          cases h3
          obtain ⟨as, g1, g2⟩ := item d x _ pd rx r2 q
          obtain ⟨bs, r1, r3⟩ := reads_all item rxs r2s q2
          refine ⟨as ++ bs, .cons g1 r1, fun hm => ?_⟩
          rcases List.mem_append.mp hm with hm | hm
          · exact g2 hm
          · exact r3 hm
theorem map_some {α β : Type} {o : Option α} {f : α → β} {b : β} (h : o.map f = some b) : ∃ a, o = some a ∧ f a = b := by
  cases o with
  | none => cases h
  | some a => exact ⟨a, rfl, Option.some.inj h⟩
theorem toPy_reads (hS : SysB X.base) (I : Inv X pins σ H s) (m : Mt (XT X fl) ρ st H) : ∀ (n : Nat) (d : D) (x : V) (u : Value) (p : PyData), R (XT X fl) ρ st H d x → RelV x u → toPy st n d = some p → ∃ as, Reads s.heap u p as ∧ sysModules ∉ as
  | 0, d, x, u, p, _, _, h => by cases h
  | n + 1, .non, x, u, p, r, ru, h => by
    cases R.non_of r
    cases ru
    cases h
    exact ⟨_, .none, fun z => by cases z⟩
  | n + 1, .bl b, x, u, p, r, ru, h => by
    cases R.bl_of r
    cases ru
    cases h
    exact ⟨_, .bool b, fun z => by cases z⟩
  | n + 1, .int b, x, u, p, r, ru, h => by
    cases R.int_of r
    obtain ⟨t, rfl⟩ := ru
    cases h
    exact ⟨_, .int b t, fun z => by cases z⟩
  | n + 1, .str b, x, u, p, r, ru, h => by
    cases R.str_of r
    obtain ⟨t, rfl⟩ := ru
    cases h
    exact ⟨_, .str b t, fun z => by cases z⟩
  | n + 1, .tup ds, x, u, p, r, ru, h => by
    obtain ⟨ps, hq, rfl⟩ := map_some (show (mapO (toPy st n) ds).map .tuple = some p from h)
    obtain ⟨a, vs, rfl, ha, ra⟩ := r.tup_of
    cases ru
    obtain ⟨its, rv, ⟨o, ho, hc, k, hd⟩, _⟩ := I.tuple ha
    obtain ⟨as, g1, g2⟩ := reads_all (fun d x u p => toPy_reads hS I m n d x u p) ra rv hq
    exact ⟨as, .tuple ho hc hd (by simpa using g1), g2⟩
  | n + 1, .lst ds, x, u, p, r, ru, h => by
    obtain ⟨ps, hq, rfl⟩ := map_some (show (mapO (toPy st n) ds).map .list = some p from h)
    obtain ⟨a, vs, rfl, ha, ra⟩ := r.lst_of
    cases ru
    obtain ⟨its, rv, ⟨o, k, ho, hc, _, hd⟩, _⟩ := I.list (SqL.of ha)
    obtain ⟨as, g1, g2⟩ := reads_all (fun d x u p => toPy_reads hS I m n d x u p) ra rv hq
    exact ⟨_, .list ho hc hd (by simpa using g1), fun z => (List.mem_cons.mp z).elim (hS.ne I ha) g2⟩
  | n + 1, .ref k, x, u, p, r, ru, h => by
    simp only [toPy] at h
    cases q : st[k]? with
    | none => rw [q] at h; cases h
    | some o =>
      rw [q] at h
      obtain ⟨a, rfl, _, ho⟩ := m.at_ r q
      cases ru
      cases o with
      | lst ds =>
        obtain ⟨ps, hq, rfl⟩ := map_some (show (mapO (toPy st n) ds).map .list = some p from h)
        obtain ⟨vs, ha, ra⟩ := ho
        obtain ⟨its, rv, ⟨o, k', ho, hc, _, hd⟩, _⟩ := I.list (SqL.of ha)
        obtain ⟨as, g1, g2⟩ := reads_all (fun d x u p => toPy_reads hS I m n d x u p) ra rv hq
        exact ⟨_, .list ho hc hd (by simpa using g1), fun z => (List.mem_cons.mp z).elim (hS.ne I ha) g2⟩
      | dk kvs =>
        obtain ⟨ps, hq, rfl⟩ := map_some (show (mapO (fun p : Key × D => (toPy st n p.2).map fun v => (keyPy p.1, v)) kvs).map .dict = some p from h)
        obtain ⟨vs, ha, ra⟩ := ho
        obtain ⟨_, hsm, ws, kv, o, es, ep, ho, hx, hd, _, pr, _⟩ := dk_of I.hok ha
        obtain ⟨bs, g0, g1, g2⟩ := reads_entries (fun d x u p => toPy_reads hS I m n d x u p) ra kv pr hq
        refine ⟨_, .dict (as := []) ho hx.1 hd g0 g1, fun hm => ?_⟩
        rcases List.mem_append.mp hm with hm | hm
        · have e : sysModules = a := by simpa using hm
          rw [← e] at hsm
          simp at hsm
        · exact g2 hm
      | _ => cases h
  | n + 1, .ob _ _, x, u, p, _, _, h => by cases h
  | n + 1, .cst _, x, u, p, _, _, h => by cases h
  | n + 1, .clo _ _, x, u, p, _, _, h => by cases h
  | n + 1, .scr _, x, u, p, _, _, h => by cases h
end
end DL
/-! DL7: repr, == and != of data, is, isinstance; the store changed. -/
namespace DL
open PySem PySem.Spec PyProof.Rows L2

/-! ### repr -/
def fRepr (st : Store) (ds : List D) : Option D := match ds with
  | [d] => match toPy st 60 d with
    | some p => if p.showable = true ∧ p.shown.length ≤ sizeLine ∧ p.depth ≤ 60 then some (.str p.shown) else none
    | none => none
  | _ => none
def rRepr (T : Tab) : List V → Hp → VK → Prop := fun xs H Q => ∃ ρ st d x p, xs = [x] ∧ Mt T ρ st H ∧ R T ρ st H d x ∧ toPy st 60 d = some p ∧ p.showable = true ∧ p.shown.length ≤ sizeLine ∧ p.depth ≤ 60 ∧ Q (.str p.shown) H
theorem call_repr {X : Cx} {fl : Str → List Str} {k : Nat} (hr : RoomG k X.A) (hS : SysB X.base) : CallR X (.builtin "repr") (rRepr (XT X fl)) := by
  intro pins s σ H xs us Q I r h
  obtain ⟨ρ, st, d, x, p, rfl, m, rd, hp, h1, h2, h3, q⟩ := h
  obtain ⟨u, rfl, ru⟩ := vals1 r
  obtain ⟨as, g1, g2⟩ := toPy_reads hS I m 60 d x u p rd ru hp
  have hu := hr.rm.units
  cases g1 with
  | none => exact PySem.P.repr_of_none ⟨.str _, H, I.tok _, ⟨_, rfl⟩, q⟩
  | bool b => exact PySem.P.repr_of_bool ⟨.str _, H, I.tok _, ⟨_, rfl⟩, q⟩
  | int i t =>
    have hi : i.natAbs.log2 < 1920 := of_decide_eq_true h1
    exact PySem.P.repr_of_int hi ⟨.str _, H, I.tok _, ⟨_, rfl⟩, q⟩
  | str y t => exact PySem.P.repr_of_str ⟨.str _, H, I.tok _, ⟨_, rfl⟩, q⟩ h2
  | list e1 e2 e3 e4 =>
    refine repr_of_reads' (.list e1 e2 e3 e4) h1 (fun _ => g2) hr.gd (by omega) (fun _ _ e => e) (fun h' u tk hk => ⟨.str _, H, I.kept hk, ⟨_, rfl⟩, q⟩) h2
  | tuple e1 e2 e3 e4 =>
    refine repr_of_reads' (.tuple e1 e2 e3 e4) h1 (fun _ => g2) hr.gd (by omega) (fun _ _ e => e) (fun h' u tk hk => ⟨.str _, H, I.kept hk, ⟨_, rfl⟩, q⟩) h2
  | dict e1 e2 e3 e4 e5 =>
    refine repr_of_reads' (.dict e1 e2 e3 e4 e5) h1 (fun _ => g2) hr.gd (by omega) (fun _ _ e => e) (fun h' u tk hk => ⟨.str _, H, I.kept hk, ⟨_, rfl⟩, q⟩) h2
theorem v_repr {T : Tab} : VN T (rRepr T) fRepr := by
  intro ρ st H ds xs v Q m rx h q
  unfold fRepr at h
  split at h
  · rename_i d
    obtain ⟨x, rfl, r⟩ := rx.one
    cases hp : toPy st 60 d with
    | none => rw [hp] at h; cases h
    | some p =>
      rw [hp] at h
      dsimp only at h
      split at h
      · rename_i hc
        cases h
        exact ⟨ρ, st, d, x, p, rfl, m, r, hp, hc.1, hc.2.1, hc.2.2, q H _ .refl m R.str⟩
      · cases h
  · cases h

/-! ### == -/
def fEqP (st : Store) (d e : D) : Option D := match toPy st 60 d, toPy st 60 e with
  | some p, some q => if SeqAt.shaped p = true ∧ SeqAt.shaped q = true then some (.bl (PyData.eqv p q)) else none
  | _, _ => none
def fNeP (st : Store) (d e : D) : Option D := match toPy st 60 d, toPy st 60 e with
  | some p, some q => if SeqAt.shaped p = true ∧ SeqAt.shaped q = true then some (.bl (!PyData.eqv p q)) else none
  | _, _ => none
def rEqP (T : Tab) (neg : Bool) : R2 := fun x y H Q => ∃ ρ st d e p q, Mt T ρ st H ∧ R T ρ st H d x ∧ R T ρ st H e y ∧ toPy st 60 d = some p ∧ toPy st 60 e = some q ∧ SeqAt.shaped p = true ∧ SeqAt.shaped q = true ∧ Q (.bl (if neg = true then !PyData.eqv p q else PyData.eqv p q)) H
theorem op_eqP {X : Cx} {fl : Str → List Str} {k : Nat} (hr : RoomG k X.A) (hS : SysB X.base) : OpR X (compareOp .Eq) (rEqP (XT X fl) false) := by
  intro pins s σ H x y v u Q I rx ry h
  obtain ⟨ρ, st, d, e, p, q, m, rd, re, hp, hq, sp, sq, hQ⟩ := h
  obtain ⟨as, g1, _⟩ := toPy_reads hS I m 60 d x v p rd rx hp
  obtain ⟨bs, g2, _⟩ := toPy_reads hS I m 60 e y u q re ry hq
  exact SeqAt.compareEq_shaped g1 g2 sp sq hr.rm.units ⟨.bl _, H, I, rfl, hQ⟩
theorem op_neP {X : Cx} {fl : Str → List Str} {k : Nat} (hr : RoomG k X.A) (hS : SysB X.base) : OpR X (compareOp .NotEq) (rEqP (XT X fl) true) := by
  intro pins s σ H x y v u Q I rx ry h
  obtain ⟨ρ, st, d, e, p, q, m, rd, re, hp, hq, sp, sq, hQ⟩ := h
  obtain ⟨as, g1, _⟩ := toPy_reads hS I m 60 d x v p rd rx hp
  obtain ⟨bs, g2, _⟩ := toPy_reads hS I m 60 e y u q re ry hq
  exact SeqAt.compareNe_shaped g1 g2 sp sq hr.rm.units ⟨.bl _, H, I, rfl, hQ⟩
theorem v_eqP {T : Tab} : V2 T (rEqP T false) fEqP := by
  intro ρ st H d e x y v Q m rx ry h hq
  unfold fEqP at h
  split at h
  · rename_i p q hp hq'
    split at h
    · rename_i hc
      cases h
      exact ⟨ρ, st, d, e, p, q, m, rx, ry, hp, hq', hc.1, hc.2, hq H _ .refl m R.bl⟩
    · cases h
  · cases h
theorem v_neP {T : Tab} : V2 T (rEqP T true) fNeP := by
  intro ρ st H d e x y v Q m rx ry h hq
  unfold fNeP at h
  split at h
  · rename_i p q hp hq'
    split at h
    · rename_i hc
      cases h
      exact ⟨ρ, st, d, e, p, q, m, rx, ry, hp, hq', hc.1, hc.2, hq H _ .refl m R.bl⟩
    · cases h
  · cases h

/-- ints, texts, None, bools -/
def scalD : D → D → Option Bool
  | .non, .non => some true
  | .bl a, .bl b => some (a == b)
  | .int a, .int b => some (a == b)
  | .str a, .str b => some (a == b)
  | _, _ => none
theorem scal_ok {T : Tab} {ρ : Rho} {st : Store} {H : Hp} {d e : D} {x y : V} {b : Bool} (rx : R T ρ st H d x) (ry : R T ρ st H e y) (h : scalD d e = some b) : scal x y = true ∧ decide (x = y) = b := by
  unfold scalD at h
  split at h
  · cases R.non_of rx; cases R.non_of ry; cases h; exact ⟨rfl, rfl⟩
  · cases R.bl_of rx; cases R.bl_of ry; cases h; exact ⟨rfl, by rw [Bool.eq_iff_iff]; simp⟩
  · cases R.int_of rx; cases R.int_of ry; cases h; exact ⟨rfl, by rw [Bool.eq_iff_iff]; simp⟩
  · cases R.str_of rx; cases R.str_of ry; cases h; exact ⟨rfl, by rw [Bool.eq_iff_iff]; simp⟩
  · cases h
def fEq (st : Store) (d e : D) : Option D := match scalD d e with
  | some b => some (.bl b)
  | none => fEqP st d e
def fNe (st : Store) (d e : D) : Option D := match scalD d e with
  | some b => some (.bl !b)
  | none => fNeP st d e
def rEqA (T : Tab) (neg : Bool) : R2 := fun x y H Q => rEqP T neg x y H Q ∨ (scal x y = true ∧ Q (.bl (if neg = true then !decide (x = y) else decide (x = y))) H)
theorem op_eqA {X : Cx} {fl : Str → List Str} {k : Nat} (hr : RoomG k X.A) (hS : SysB X.base) : OpR X (compareOp .Eq) (rEqA (XT X fl) false) := by
  intro pins s σ H x y v u Q I rx ry h
  rcases h with h | h
  · exact op_eqP hr hS pins s σ H x y v u Q I rx ry h
  · exact op_eq pins s σ H x y v u Q I rx ry h
theorem op_neA {X : Cx} {fl : Str → List Str} {k : Nat} (hr : RoomG k X.A) (hS : SysB X.base) : OpR X (compareOp .NotEq) (rEqA (XT X fl) true) := by
  intro pins s σ H x y v u Q I rx ry h
  rcases h with h | h
  · exact op_neP hr hS pins s σ H x y v u Q I rx ry h
  · exact op_ne pins s σ H x y v u Q I rx ry h
theorem v_eq {T : Tab} : V2 T (rEqA T false) fEq := by
  intro ρ st H d e x y v Q m rx ry h hq
  unfold fEq at h
  cases hs : scalD d e with
  | some b =>
    rw [hs] at h
    cases h
    obtain ⟨h1, h2⟩ := scal_ok rx ry hs
    exact .inr ⟨h1, by rw [if_neg (by decide), h2]; exact hq H _ .refl m R.bl⟩
  | none =>
    rw [hs] at h
    exact .inl (v_eqP ρ st H d e x y v Q m rx ry h hq)
theorem v_ne {T : Tab} : V2 T (rEqA T true) fNe := by
  intro ρ st H d e x y v Q m rx ry h hq
  unfold fNe at h
  cases hs : scalD d e with
  | some b =>
    rw [hs] at h
    cases h
    obtain ⟨h1, h2⟩ := scal_ok rx ry hs
    exact .inr ⟨h1, by rw [if_pos rfl, h2]; exact hq H _ .refl m R.bl⟩
  | none =>
    rw [hs] at h
    exact .inl (v_neP ρ st H d e x y v Q m rx ry h hq)

/-! ### is None, is True, is False -/
def isNonD : D → Option Bool
  | .non => some true
  | .cst _ => none
  | .clo _ _ => none
  | .scr _ => none
  | _ => some false
theorem isNon_ok {T : Tab} {ρ : Rho} {st : Store} {H : Hp} {d : D} {x : V} {b : Bool} (r : R T ρ st H d x) (h : isNonD d = some b) : decide (x = .non) = b := by
  cases d with
  | non => cases R.non_of r; cases h; rfl
  | bl i => cases R.bl_of r; cases h; rfl
  | int i => cases R.int_of r; cases h; rfl
  | str i => cases R.str_of r; cases h; rfl
  | tup ds => obtain ⟨a, vs, rfl, _⟩ := r.tup_of; cases h; rfl
  | lst ds => obtain ⟨a, vs, rfl, _⟩ := r.lst_of; cases h; rfl
  | ob c ds => simp only [R] at r; obtain ⟨a, C, dx, vs, rfl, _⟩ := r; cases h; rfl
  | ref n => simp only [R] at r; obtain ⟨a, rfl, _⟩ := r; cases h; rfl
  | _ => cases h
def fIsN (_ : Store) (d e : D) : Option D := match e with
  | .non => (isNonD d).map .bl
  | _ => none
def fNotN (_ : Store) (d e : D) : Option D := match e with
  | .non => (isNonD d).map fun b => .bl !b
  | _ => none
theorem v_isN {T : Tab} : V2 T (fun x y H Q => y = .non ∧ Q (.bl (decide (x = .non))) H) fIsN := by
  intro ρ st H d e x y v Q m rx ry h hq
  unfold fIsN at h
  split at h
  · cases hb : isNonD d with
    | none => rw [hb] at h; cases h
    | some b =>
      rw [hb] at h
      cases h
      exact ⟨R.non_of ry, by rw [isNon_ok rx hb]; exact hq H _ .refl m R.bl⟩
  · cases h
theorem v_notN {T : Tab} : V2 T (fun x y H Q => y = .non ∧ Q (.bl (!decide (x = .non))) H) fNotN := by
  intro ρ st H d e x y v Q m rx ry h hq
  unfold fNotN at h
  split at h
  · cases hb : isNonD d with
    | none => rw [hb] at h; cases h
    | some b =>
      rw [hb] at h
      cases h
      exact ⟨R.non_of ry, by rw [isNon_ok rx hb]; exact hq H _ .refl m R.bl⟩
  · cases h

/-! ### isinstance -/
/-- what a class of the text must have (for isinstance) -/
structure OwnC (K : PySem.W.Frag) (C : Addr) : Prop where
  cl : Cls K C
  ha : PySem.W.findIn K (.ref C) "__class__" = some (some (.builtin "object.__class__"))
  hn : PySem.W.specialIn K (.builtin "object.__class__") "__get__" = some (some (.builtin "getset_descriptor.__get__"))
  htk : PySem.W.takesIn K (.builtin "object.__class__") = some true
  hm : PySem.W.mroIn K C (.type "object") = some true
inductive Kd where
  | ty (n : String) | own (c : Str)
  deriving DecidableEq
def kdOf (st : Store) : D → Option Kd
  | .non => some (.ty "NoneType")
  | .bl _ => some (.ty "bool")
  | .int _ => some (.ty "int")
  | .str _ => some (.ty "str")
  | .tup _ => some (.ty "tuple")
  | .lst _ => some (.ty "list")
  | .ob c _ => some (.own c)
  | .ref n => match st[n]? with
    | some (.lst _) => some (.ty "list")
    | some (.dk _) => some (.ty "dict")
    | some (.dt _) => some (.ty "dict")
    | some (.ins c _) => some (.own c)
    | _ => none
  | _ => none
/-- the kind as a class -/
def KdV (mg : Str → Option Value) : Kd → Value → Prop
  | .ty n, t => t = .type n
  | .own c, t => ∃ C, mg c = some (.ref C) ∧ t = .ref C
theorem kd_ok {T : Tab} {ρ : Rho} {st : Store} {H : Hp} {d : D} {x : V} {k : Kd} (m : Mt T ρ st H) (r : R T ρ st H d x) (h : kdOf st d = some k) (ho : ∀ c C, k = .own c → T.mg c = some (.ref C) → OwnC T.K C) : ∃ t, KdV T.mg k t ∧ TyX T.K H x t := by
  cases d with
  | non => cases R.non_of r; cases h; exact ⟨_, rfl, .base .non⟩
  | bl i => cases R.bl_of r; cases h; exact ⟨_, rfl, .base (.bl _)⟩
  | int i => cases R.int_of r; cases h; exact ⟨_, rfl, .base (.int _)⟩
  | str i => cases R.str_of r; cases h; exact ⟨_, rfl, .base (.str _)⟩
  | tup ds =>
    simp only [R] at r
    obtain ⟨a, vs, rfl, q, _⟩ := r
    cases h
    rcases q with ⟨q, _⟩ | ⟨o, _, _, q, hc, _⟩
    · exact ⟨_, rfl, .base (.tup q)⟩
    · exact ⟨_, rfl, .kTuple q hc⟩
  | lst ds => obtain ⟨a, vs, rfl, q, _⟩ := r.lst_of; cases h; exact ⟨_, rfl, .base (.lst q)⟩
  | ob c ds =>
    simp only [R] at r
    obtain ⟨a, C, dx, vs, rfl, hc, q, _⟩ := r
    cases h
    have o := ho c C rfl hc
    exact ⟨.ref C, ⟨C, hc, rfl⟩, .base (.ins q o.cl o.ha o.hn o.htk o.hm)⟩
  | ref n =>
    simp only [kdOf] at h
    cases q : st[n]? with
    | none => rw [q] at h; cases h
    | some so =>
      rw [q] at h
      obtain ⟨a, rfl, _, hr⟩ := m.at_ r q
      cases so with
      | lst ds => obtain ⟨vs, q, _⟩ := hr; cases h; exact ⟨_, rfl, .base (.lst q)⟩
      | dk ds => obtain ⟨vs, q, _⟩ := hr; cases h; exact ⟨_, rfl, .base (.dK q)⟩
      | dt ds => obtain ⟨vs, q, _⟩ := hr; cases h; exact ⟨_, rfl, .base (.dT q)⟩
      | ins c ds =>
        obtain ⟨C, dx, vs, hc, q, _⟩ := hr
        cases h
        have o := ho c C rfl hc
        exact ⟨.ref C, ⟨C, hc, rfl⟩, .base (.ins q o.cl o.ha o.hn o.htk o.hm)⟩
      | _ => cases h
  | _ => cases h
/-- what is known of a class u: which kinds are of it -/
structure IsiOk (K : PySem.W.Frag) (mg : Str → Option Value) (u : Value) (isi : Kd → Option Bool) : Prop where
  own : ∀ c C b, isi (.own c) = some b → mg c = some (.ref C) → OwnC K C
  ok : ∀ k t b, isi k = some b → KdV mg k t → PySem.W.kitOne K t u = some b
def fIsi (isi : Kd → Option Bool) (st : Store) (ds : List D) : Option D := match ds with
  | [d, .cst _] => ((kdOf st d).bind isi).map .bl
  | _ => none
theorem v_isi {X : Cx} {fl : Str → List Str} {c : V} {u : Value} {isi : Kd → Option Bool} (k : ClsV c u) (ok : IsiOk X.K X.mg u isi) : ∀ ρ st H d x v Q, Mt (XT X fl) ρ st H → R (XT X fl) ρ st H d x → fIsi isi st [d, .cst c] = some v →
    (∀ H' z, Ext ρ st H ρ st H' → Mt (XT X fl) ρ st H' → R (XT X fl) ρ st H' v z → Q z H') → rIsi X.K [x, c] H Q := by
  intro ρ st H d x v Q m r h q
  simp only [fIsi] at h
  cases hk : kdOf st d with
  | none => rw [hk] at h; cases h
  | some kd =>
    rw [hk] at h
    obtain ⟨b, hb, rfl⟩ := map_some h
    have hb' : isi kd = some b := hb
    obtain ⟨t, ht, ty⟩ := kd_ok m r hk fun c C e hc => ok.own c C b (by rw [← e]; exact hb') hc
    exact ⟨x, c, t, u, b, rfl, k, ty, ok.ok kd t b hb' ht, q H _ .refl m R.bl⟩
def eIsi (isi : Kd → Option Bool) (a : EM) : EM := e1 (fun st d => ((kdOf st d).bind isi).map .bl) a
section
variable {X : Cx} {fl : Str → List Str} {Wx : WX} {e a b : Expr} {es : List Expr} {ma mb : EM} {mA : AM} {p pos : Pos}
/-- isinstance(a, C), C a class by its name -/
theorem de_isi {c : V} {u : Value} {isi : Kd → Option Bool} (hg : Gl X "isinstance") (hm : X.mg "isinstance" = none) (hvb : bootBuiltins "isinstance" = some (.builtin "isinstance")) (k : ClsV c u) (ok : IsiOk X.K X.mg u isi) (ha : DE X fl Wx a ma) (hb : PE X b (tC c))
    (hs : starEach [a, b] X.env = (false, eval a X.env) :: starEach [b] X.env := by rfl) (hs2 : starEach [b] X.env = (false, eval b X.env) :: starEach [] X.env := by rfl) (hpl : (backTo pos (starEach [b] X.env)).any (·.1) = false := by rfl) :
    DE X fl Wx (.Call (.Name "isinstance" p) [a, b] [] pos) (eIsi isi ma) := by
  refine pe_imp (pe_callB call_isi hg hm hvb (pa_cons ha (pa_cons hb pa_nil hs2) hs) (by decide) (by decide) hs hpl) fun σ H Q h => ?_
  obtain ⟨ρ, δ, st, m, en, h⟩ := h
  refine ⟨ρ, δ, st, m, en, (Post.bind h).monoE fun d ρ1 st1 H1 e1 m1 h1 x rx => ?_⟩
  obtain ⟨v, ev, h2⟩ := Post.lift_inv h1
  exact v_isi k ok ρ1 st1 H1 d x v Q m1 rx ev fun H' z e' m' rz => h2 ρ1 H' e' m' z rz
/-- isinstance(a, (S, T)), S and T built-in classes -/
theorem de_isi2 {n1 n2 : Str} {t1 t2 : String} {p1 p2 p3 : Pos} {j : Nat} {isi : Kd → Option Bool} (hg : Gl X "isinstance") (hm : X.mg "isinstance" = none) (hvb : bootBuiltins "isinstance" = some (.builtin "isinstance"))
    (h1 : PE X (.Name n1 p1) (tC (.ty t1))) (h2 : PE X (.Name n2 p2) (tC (.ty t2)))
    (ok : ∀ k t b, isi k = some b → KdV X.mg k t → PySem.W.kitAny X.K t [.type t1, .type t2] = some b) (own : ∀ c C b, isi (.own c) = some b → X.mg c = some (.ref C) → OwnC X.K C) (ha : DE X fl Wx a ma)
    (hs0 : starEach [.Name n1 p1, .Name n2 p2] X.env = (false, eval (.Name n1 p1) X.env) :: starEach [.Name n2 p2] X.env := by rfl) (hs1 : starEach [.Name n2 p2] X.env = (false, eval (.Name n2 p2) X.env) :: starEach [] X.env := by rfl)
    (hs : starEach [a, .Tuple [.Name n1 p1, .Name n2 p2] j p3] X.env = (false, eval a X.env) :: starEach [.Tuple [.Name n1 p1, .Name n2 p2] j p3] X.env := by rfl) (hs2 : starEach [.Tuple [.Name n1 p1, .Name n2 p2] j p3] X.env = (false, eval (.Tuple [.Name n1 p1, .Name n2 p2] j p3) X.env) :: starEach [] X.env := by rfl)
    (hpl : (backTo pos (starEach [.Tuple [.Name n1 p1, .Name n2 p2] j p3] X.env)).any (·.1) = false := by rfl) :
    DE X fl Wx (.Call (.Name "isinstance" p) [a, .Tuple [.Name n1 p1, .Name n2 p2] j p3] [] pos) (eIsi isi ma) := by
  refine pe_imp (pe_callB call_isiT hg hm hvb (pa_cons ha (pa_cons (pe_tup (pa_cons h1 (pa_cons h2 pa_nil hs1) hs0)) pa_nil hs2) hs) (by decide) (by decide) hs hpl) fun σ H Q h => ?_
  obtain ⟨ρ, δ, st, m, en, h⟩ := h
  refine ⟨ρ, δ, st, m, en, (Post.bind h).monoE fun d ρ1 st1 H1 e1 m1 h1 x rx => ⟨(by show 2 ≤ sizeLine; decide), fun tp htp => ?_⟩⟩
  obtain ⟨v, ev, h2⟩ := Post.lift_inv h1
  have ev : ((kdOf st1 d).bind isi).map .bl = some v := ev
  cases hk : kdOf st1 d with
  | none => rw [hk] at ev; cases ev
  | some kd =>
    rw [hk] at ev
    obtain ⟨b, hb, rfl⟩ := map_some ev
    have hb' : isi kd = some b := hb
    have e2 := Ext.new (ρ := ρ1) (st := st1) (o := .tup [V.ty t1, V.ty t2]) m1 htp
    have m2 := m1.new (o := .tup [V.ty t1, V.ty t2]) htp
    obtain ⟨t, ht, ty⟩ := kd_ok m2 (rx.ext e2 _ _) hk fun c C e hc => own c C b (by rw [← e]; exact hb') hc
    exact ⟨x, tp, _, t, _, b, rfl, upd_same, .cons (.ty t1) (.cons (.ty t2) .nil), ty, ok kd t b hb' ht, h2 ρ1 _ e2 m2 _ R.bl⟩
end

/-! ### the store changes -/
section
variable {T : Tab} {ρ : Rho} {st : Store} {H : Hp} {n : Nat} {a : Addr} {o o' : SO} {u : HO}
theorem Live.set {b : Addr} (hn : ρ.ix[n]? = some a) (ho : st[n]? = some o) (hd : o ≠ .dead) (l : Live ρ (st.set n o') b) : Live ρ st b := by
  rcases l with ⟨i, w, h1, h2, h3⟩ | l
  · by_cases hi : n = i
    · subst hi
      rw [hn] at h1
      cases h1
      exact .inl ⟨n, o, hn, ho, hd⟩
    · rw [List.getElem?_set_ne hi] at h2
      exact .inl ⟨i, w, h1, h2, h3⟩
  · exact .inr l
theorem Ext.set (m : Mt T ρ st H) (hn : ρ.ix[n]? = some a) (ho : st[n]? = some o) (hd : o ≠ .dead) : Ext ρ st H ρ (st.set n o') (upd H a u) := by
  have la : Live ρ st a := .inl ⟨n, o, hn, ho, hd⟩
  refine ⟨fun _ _ h => h, fun _ h => h, fun b l => ?_, fun b w _ _ l z => l (z.set hn ho hd), fun b w e _ l => ?_⟩
  · exact upd_ne fun z => m.dj b l (by rw [z]; exact List.mem_of_getElem? hn)
  · rw [upd_ne fun z => l (by rw [z]; exact la)]
    exact e
theorem Mt.set (m : Mt T ρ st H) (hn : ρ.ix[n]? = some a) (ho : st[n]? = some o) (hd : o ≠ .dead) (hr : RObj T ρ (st.set n o') (upd H a u) o' a) : Mt T ρ (st.set n o') (upd H a u) := by
  have tr : ∀ {b : Addr}, (∃ w, H b = some w) → ∃ w, upd H a u b = some w := fun {b} ⟨w, q⟩ => by
    by_cases z : b = a
    · exact ⟨u, by rw [z, upd_same]⟩
    · exact ⟨w, by rw [upd_ne z]; exact q⟩
  refine ⟨by rw [List.length_set]; exact m.len, m.nd, fun b hb => tr (m.trk b hb), fun b hb => tr (m.ptr b hb), m.dj, fun i b so h1 h2 => ?_⟩
  by_cases hi : n = i
  · subst hi
    rw [hn] at h1
    cases h1
    have hlt : n < st.length := (List.getElem?_eq_some_iff.mp ho).1
    rw [List.getElem?_set_self hlt] at h2
    cases h2
    exact hr
  · rw [List.getElem?_set_ne hi] at h2
    have ne : b ≠ a := fun z => by
      subst z
      obtain ⟨l1, e1⟩ := List.getElem?_eq_some_iff.mp hn
      obtain ⟨l2, e2⟩ := List.getElem?_eq_some_iff.mp h1
      exact hi ((List.getElem_inj m.nd).mp (e1.trans e2.symm))
    exact (m.obj i b so h1 h2).ext (Ext.set m hn ho hd) (upd_ne ne)
/-- it will not change any more -/
theorem Ext.die (hn : ρ.ix[n]? = some a) (ho : st[n]? = some o) : Ext ρ st H ρ (st.set n .dead) H := by
  refine ⟨fun _ _ h => h, fun _ h => h, fun b l => rfl, fun b w _ _ l z => ?_, fun b w e _ l => e⟩
  rcases z with ⟨i, w, h1, h2, h3⟩ | z
  · by_cases hi : n = i
    · subst hi
      have hlt : n < st.length := (List.getElem?_eq_some_iff.mp ho).1
      rw [List.getElem?_set_self hlt] at h2
      exact h3 (Option.some.inj h2).symm
    · rw [List.getElem?_set_ne hi] at h2
      exact l (.inl ⟨i, w, h1, h2, h3⟩)
  · exact l (.inr z)
theorem Mt.die (m : Mt T ρ st H) (hn : ρ.ix[n]? = some a) (ho : st[n]? = some o) : Mt T ρ (st.set n .dead) H := by
  refine ⟨by rw [List.length_set]; exact m.len, m.nd, m.trk, m.ptr, m.dj, fun i b so h1 h2 => ?_⟩
  by_cases hi : n = i
  · subst hi
    have hlt : n < st.length := (List.getElem?_eq_some_iff.mp ho).1
    rw [List.getElem?_set_self hlt] at h2
    cases h2
    trivial
  · rw [List.getElem?_set_ne hi] at h2
    exact (m.obj i b so h1 h2).ext (Ext.die hn ho) rfl
theorem notLive_die (m : Mt T ρ st H) (hn : ρ.ix[n]? = some a) (ho : st[n]? = some o) : ¬ Live ρ (st.set n .dead) a := by
  rintro (⟨i, w, h1, h2, h3⟩ | z)
  · obtain ⟨l1, e1⟩ := List.getElem?_eq_some_iff.mp hn
    obtain ⟨l2, e2⟩ := List.getElem?_eq_some_iff.mp h1
    have hi : n = i := (List.getElem_inj m.nd).mp (e1.trans e2.symm)
    subst hi
    have hlt : n < st.length := (List.getElem?_eq_some_iff.mp ho).1
    rw [List.getElem?_set_self hlt] at h2
    exact h3 (Option.some.inj h2).symm
  · exact m.dj a z (List.mem_of_getElem? hn)
end
/-- xs.append(y) -/
def eApp (a b : EM) : EM := fun δ => a δ >>= fun d st => match d with
  | .ref n => match st[n]? with
    | some (.lst _) => (b δ >>= fun y st1 => match st1[n]? with
      | some (.lst ds) => if ds.length < sizeLine then .ok .non (st1.set n (.lst (ds ++ [y]))) else .stuck
      | _ => .stuck) st
    | _ => .stuck
  | _ => .stuck
section
variable {X : Cx} {fl : Str → List Str} {Wx : WX} {a b : Expr} {ma mb : EM} {apos pos : Pos}
theorem de_app (ha : DE X fl Wx a ma) (hb : DE X fl Wx b mb) (hbase : attributeBase a "append" X.env (eval a X.env) = eval a X.env := by rfl)
    (hfew : ((backTo pos (starEach [b] X.env)).all (fun x => !x.1) && (backToKw pos (keywordEach [] X.env)).all (fun x => x.1.isSome)
      && decide (([b] : List Expr).length + ([] : List Keyword).length + (if ([] : List Keyword).isEmpty then 0 else 1) < 30)) = true := by rfl)
    (hline : (apos.endLine == pos.line) = true := by rfl) (hs : starEach [b] X.env = (false, eval b X.env) :: starEach [] X.env := by rfl) (hplain : (backTo pos (starEach [] X.env)).any (·.1) = false := by rfl) :
    DE X fl Wx (.Call (.Attribute a "append" apos) [b] [] pos) (eApp ma mb) := by
  refine pe_imp (pe_bm PySem.F.plainAttrs_list PySem.F.slot_list_append PySem.F.type_list_append mt_append ha (pa_cons hb pa_nil hs) hbase hfew hline hs hplain) fun σ H Q ⟨ρ, δ, st, m, en, h⟩ => ?_
  refine ⟨ρ, δ, st, m, en, (Post.bind h).monoE fun d ρ1 st1 H1 e1 m1 h1 x rx => ?_⟩
  cases d with
  | ref n =>
    simp only at h1
    cases q : st1[n]? with
    | none => rw [q] at h1; exact False.elim h1
    | some o =>
      rw [q] at h1
      cases o with
      | lst ds0 =>
        obtain ⟨a0, ex, hn, vs0, hq, r0⟩ := m1.at_ rx q
        subst ex
        refine ⟨.inl ⟨rfl, vs0, SqL.of hq⟩, ρ1, δ, st1, m1, en.ext e1, (Post.bind h1).monoE fun y ρ2 st2 H2 e2 m2 h2 z rz => ?_⟩
        cases q2 : st2[n]? with
        | none => rw [q2] at h2; exact False.elim h2
        | some o2 =>
          rw [q2] at h2
          cases o2 with
          | lst ds =>
            simp only at h2
            have hn2 := e2.pre n a0 hn
            obtain ⟨vs, hq2, r2⟩ := m2.obj n a0 _ hn2 q2
            by_cases hl : ds.length < sizeLine
            · rw [if_pos hl] at h2
              have ee := Ext.set (o' := .lst (ds ++ [y])) (u := .lst (vs ++ [z])) m2 hn2 q2 (fun z => by cases z)
              refine ⟨a0, vs, z, rfl, rfl, hq2, by rw [← r2.length]; exact hl, h2 ρ2 _ ee (m2.set hn2 q2 (fun z => by cases z) ⟨_, upd_same, (r2.append (.cons rz .nil)).ext ee _ _⟩) _ R.non⟩
            · rw [if_neg hl] at h2
              exact False.elim h2
          | _ => exact False.elim h2
      | _ => exact False.elim h1
  | _ => exact False.elim h1
end
end DL
/-! DL8: instances, dicts, the script. -/
namespace DL
open PySem PySem.Spec PyProof.Rows L2

/-! ### the script -/
theorem scr_seq {T : Tab} {ρ : Rho} {st : Store} {H : Hp} {ns : List Int} {x : V} (r : R T ρ st H (.scr ns) x) : ∃ a, x = .ref a ∧ SqL T.K H a (ns.map V.int) := by
  simp only [R] at r
  obtain ⟨a, e, h⟩ := r
  refine ⟨a, e, ?_⟩
  rcases h with ⟨o, h, _⟩ | h
  · exact .inl (.inr ⟨o, h⟩)
  · exact h H
def itScr (m : EM) : IM := fun δ => m δ >>= fun d => match d with
  | .scr ns => pure (ns.map D.int, none)
  | _ => M.stuck
theorem scr_keep {T : Tab} {ρ ρ2 : Rho} {st st2 : Store} {H H2 : Hp} {ns : List Int} {a : Addr} (r : R T ρ st H (.scr ns) (.ref a)) (e : Ext ρ st H ρ2 st2 H2) : SqL T.K H2 a (ns.map V.int) := by
  obtain ⟨b, eb, h⟩ := scr_seq (r.ext e _ _)
  cases eb
  exact h
theorem jok_scr {T : Tab} {ρ : Rho} {st : Store} {H : Hp} {ns : List Int} {a : Addr} (r : R T ρ st H (.scr ns) (.ref a)) : JOk T ρ st H (Itl T.K a) (ns.map D.int) none := by
  refine ⟨fun ρ2 st2 H2 e m _ i d hd => ?_, fun ρ2 st2 H2 e m _ i hi => ?_⟩
  · have h2 := scr_keep r e
    rw [List.getElem?_map] at hd
    cases q : ns[i]? with
    | none => rw [q] at hd; cases hd
    | some j =>
      rw [q] at hd
      cases hd
      refine ⟨⟨_, .int j, h2, by rw [List.getElem?_map, q]; rfl⟩, fun y H3 ⟨e1, e2⟩ => ?_⟩
      subst e1
      have := e2 _ h2
      rw [List.getElem?_map, q] at this
      cases this
      exact ⟨.refl, m, R.int⟩
  · exact ⟨_, scr_keep r e, by simpa using hi⟩
section
variable {X : Cx} {fl : Str → List Str} {Wx : WX} {tg e a b : Expr} {m ma mb : EM} {p pos : Pos}
theorem di_scr (h : DE X fl Wx e m) : DI X fl Wx tg e (itScr m) := by
  refine pi_imp (pi_seq h) fun σ H Rr ⟨ρ, δ, st, mt, en, h⟩ => ?_
  refine ⟨ρ, δ, st, mt, en, (Post.bind h).monoE fun d ρ1 st1 H1 e1 m1 h1 x rx => ?_⟩
  cases d with
  | scr ns =>
    obtain ⟨a, ex, q⟩ := scr_seq rx
    subst ex
    exact ⟨a, rfl, .inl ⟨⟨_, q⟩, h1 ρ1 H1 .refl m1 _ (jok_scr rx)⟩⟩
  | _ => exact False.elim h1
end
def fListS (st : Store) (ds : List D) : Option D := match ds with
  | [.scr ns] => some (.lst (ns.map D.int))
  | _ => none
theorem v_listS {T : Tab} : VN T (fun xs H Q => ∃ p ys, xs = [.ref p] ∧ (SqL T.K H p ys ∨ SqT T.K H p ys) ∧ ∀ l, H l = none → Q (.ref l) (upd H l (.lst ys))) fListS := by
  intro ρ st H ds xs v Q m rx h q
  unfold fListS at h
  split at h
  · rename_i ns
    obtain ⟨x, rfl, r⟩ := rx.one
    cases h
    obtain ⟨a, e, hq⟩ := scr_seq r
    subst e
    refine ⟨a, _, rfl, .inl hq, fun p hp => ?_⟩
    obtain ⟨e1, m1, r1⟩ := new_lst m (RAll.of_map (fun _ => R.int)) hp
    exact q _ _ e1 m1 r1
  · cases h
/-- list(xs), to be changed -/
def eListN (a : AM) : EM := fun δ => a δ >>= fun ds st => match ds with
  | [d] => match seqOf st d with
    | some es => if es.length ≤ sizeLine then .ok (.ref st.length) (st ++ [.lst es]) else .stuck
    | none => .stuck
  | _ => .stuck
theorem go_listN {X : Cx} {fl : Str → List Str} {Wx : WX} {mA : AM} {σ : L2.St} {H : Hp} {Q : VK} (h : tD (XT X fl) Wx (eListN mA) σ H Q) : tDA (XT X fl) Wx mA σ H fun xs H => ∃ p ys, xs = [.ref p] ∧ (SqL X.K H p ys ∨ SqT X.K H p ys) ∧ ∀ l, H l = none → Q (.ref l) (upd H l (.lst ys)) := by
  obtain ⟨ρ, δ, st, m, en, h⟩ := h
  refine ⟨ρ, δ, st, m, en, (Post.bind h).monoE fun ds ρ1 st1 H1 e1 m1 h1 xs rxs => ?_⟩
  match ds, h1, rxs with
  | [d], h1, rxs =>
    obtain ⟨x, rfl, r⟩ := rxs.one
    dsimp only at h1
    cases q : seqOf st1 d with
    | none => rw [q] at h1; exact False.elim h1
    | some es =>
      rw [q] at h1
      dsimp only at h1
      by_cases hl : es.length ≤ sizeLine
      · rw [if_pos hl] at h1
        obtain ⟨a, vs, ea, hq, ra⟩ := seq_ok m1 r q
        subst ea
        refine ⟨a, vs, rfl, hq, fun p hp => ?_⟩
        have e := Ext.push (u := .lst vs) (o := .lst es) m1 hp
        refine h1 (ρ1.snoc p) _ e (m1.push hp ⟨vs, upd_same, ra.ext e _ _⟩) (.ref p) ?_
        simp only [R]
        exact ⟨p, rfl, push_last m1.len⟩
      · rw [if_neg hl] at h1
        exact False.elim h1
  | [], h1, _ => exact False.elim h1
  | _ :: _ :: _, h1, _ => exact False.elim h1

/-! ### dicts -/
section
variable {κ : Type} [DecidableEq κ]
def valD (kvs : List (κ × D)) (k : κ) : Option D := (kvs.find? fun kv => decide (kv.1 = k)).map (·.2)
def putD (kvs : List (κ × D)) (k : κ) (v : D) : List (κ × D) :=
  if (kvs.any fun kv => decide (kv.1 = k)) = true then kvs.map (fun kv => if kv.1 = k then (kv.1, v) else kv) else kvs ++ [(k, v)]
variable {T : Tab} {ρ : Rho} {st : Store} {H : Hp}
theorem RKV.val : ∀ {kvs : List (κ × D)} {vs : List (κ × V)} {k : κ}, RKV T ρ st H kvs vs → (∀ d, valD kvs k = some d → ∃ x, valV vs k = some x ∧ R T ρ st H d x) ∧ (valD kvs k = none → valV vs k = none)
  | [], vs, k, h => by
    have e : vs = [] := h
    subst e
    exact ⟨fun d z => by simp [valD] at z, fun _ => rfl⟩
  | (j, d) :: r, vs, k, h => by
    obtain ⟨x, xs, e, h1, h2⟩ := h
    subst e
    by_cases hj : j = k
    · rw [valV_pos (p := (j, x)) hj]
      have e2 : valD ((j, d) :: r) k = some d := by simp [valD, hj]
      rw [e2]
      exact ⟨fun d' z => by cases z; exact ⟨x, rfl, h1⟩, fun z => by cases z⟩
    · rw [valV_neg (p := (j, x)) hj]
      have e2 : valD ((j, d) :: r) k = valD r k := by simp [valD, hj]
      rw [e2]
      exact RKV.val h2
theorem RKV.keys : ∀ {kvs : List (κ × D)} {vs : List (κ × V)}, RKV T ρ st H kvs vs → vs.map (·.1) = kvs.map (·.1)
  | [], vs, h => by
    have e : vs = [] := h
    subst e
    rfl
  | (j, d) :: r, vs, h => by
    obtain ⟨x, xs, e, h1, h2⟩ := h
    subst e
    rw [List.map_cons, List.map_cons, RKV.keys h2]
theorem RKV.anyk (k : κ) : ∀ {kvs : List (κ × D)} {vs : List (κ × V)}, RKV T ρ st H kvs vs → (vs.any fun kv => decide (kv.1 = k)) = kvs.any fun kv => decide (kv.1 = k)
  | [], vs, h => by
    have e : vs = [] := h
    subst e
    rfl
  | (j, d) :: r, vs, h => by
    obtain ⟨x, xs, e, h1, h2⟩ := h
    subst e
    rw [List.any_cons, List.any_cons, RKV.anyk k h2]
theorem RKV.setk {k : κ} {d : D} {x : V} (rx : R T ρ st H d x) : ∀ {kvs : List (κ × D)} {vs : List (κ × V)}, RKV T ρ st H kvs vs → RKV T ρ st H (kvs.map fun kv => if kv.1 = k then (kv.1, d) else kv) (vs.map fun kv => if kv.1 = k then (kv.1, x) else kv)
  | [], vs, h => by
    have e : vs = [] := h
    subst e
    rfl
  | (j, d') :: r, vs, h => by
    obtain ⟨y, ys, e, h1, h2⟩ := h
    subst e
    have ih := RKV.setk (k := k) rx h2
    rw [List.map_cons, List.map_cons]
    dsimp only
    by_cases hj : j = k
    · rw [if_pos hj, if_pos hj]
      exact ⟨x, _, rfl, rx, ih⟩
    · rw [if_neg hj, if_neg hj]
      exact ⟨y, _, rfl, h1, ih⟩
theorem RKV.append : ∀ {kvs ks : List (κ × D)} {vs ws : List (κ × V)}, RKV T ρ st H kvs vs → RKV T ρ st H ks ws → RKV T ρ st H (kvs ++ ks) (vs ++ ws)
  | [], _, vs, _, h, k => by
    have e : vs = [] := h
    subst e
    exact k
  | (j, d) :: r, ks, vs, ws, h, k => by
    obtain ⟨x, xs, e, h1, h2⟩ := h
    subst e
    exact ⟨x, _, rfl, h1, RKV.append h2 k⟩
theorem RKV.put {kvs : List (κ × D)} {vs : List (κ × V)} {k : κ} {d : D} {x : V} (h : RKV T ρ st H kvs vs) (rx : R T ρ st H d x) : RKV T ρ st H (putD kvs k d) (putK vs k x) := by
  unfold putD putK
  rw [h.anyk k]
  split
  · exact RKV.setk rx h
  · exact h.append ⟨x, [], rfl, rx, rfl⟩
end
/-- d[k], k a text -/
def fDget (st : Store) (d e : D) : Option D := match d, e with
  | .ref n, .str k => match st[n]? with
    | some (.dk kvs) => valD kvs (.inr k)
    | _ => none
  | .ref n, .int k => match st[n]? with
    | some (.dk kvs) => valD kvs (.inl k)
    | _ => none
  | _, _ => none
def sDput (md mk mv : EM) : SM := fun δ => mv δ >>= fun v => md δ >>= fun d => mk δ >>= fun e st => match d, e with
  | .ref n, .str k => match st[n]? with
    | some (.dk kvs) => if kvs.length < sizeLine then .ok (.next, δ) (st.set n (.dk (putD kvs (.inr k) v))) else .stuck
    | _ => .stuck
  | .ref n, .int k => match st[n]? with
    | some (.dk kvs) => if kvs.length < sizeLine then .ok (.next, δ) (st.set n (.dk (putD kvs (.inl k) v))) else .stuck
    | _ => .stuck
  | _, _ => .stuck
section
variable {X : Cx} {fl : Str → List Str} {Wx : WX} {E : XK} {o i value a b : Expr} {md mk mv ma mb : EM} {pos pos' : Pos}
theorem v_dget {T : Tab} : V2 T (fun x y H Q => ∃ a v, x = .ref a ∧ DGet H a y (some v) ∧ Q v H) fDget := by
  intro ρ st H d e x y v Q m rx ry h q
  unfold fDget at h
  split at h
  · rename_i k
    split at h
    · rename_i hst
      obtain ⟨a, rfl, hn, vs, ha, r⟩ := m.at_ rx hst
      obtain ⟨z, hz, rz⟩ := r.val.1 v h
      exact ⟨a, z, rfl, .inl ⟨vs, .inr k, .inl ha, R.str_of ry, hz.symm⟩, q H _ .refl m rz⟩
    · cases h
  · rename_i k
    split at h
    · rename_i hst
      obtain ⟨a, rfl, hn, vs, ha, r⟩ := m.at_ rx hst
      obtain ⟨z, hz, rz⟩ := r.val.1 v h
      exact ⟨a, z, rfl, .inl ⟨vs, .inl k, .inl ha, R.int_of ry, hz.symm⟩, q H _ .refl m rz⟩
    · cases h
  · cases h
theorem de_dget {k : Nat} (hr : RoomG k X.A) (ho : DE X fl Wx o md) (hi : DE X fl Wx i mk) (hs : NoSl i) : DE X fl Wx (.Subscript o i pos) (e2 fDget md mk) :=
  pe_imp (pe_dget (hu_of hr.rm) ho hi hs) fun _ _ _ h => go2 v_dget h
theorem ds_dput {k : Nat} (hr : RoomG k X.A) (ho : DE X fl (wx E) o md) (hi : DE X fl (wx E) i mk) (hv : DE X fl (wx E) value mv) (hs : swapsWith value (some (.Subscript o i pos')) pos.line X.env = pure false) :
    DS X fl E (.Assign [.Subscript o i pos'] value pos) (sDput md mk mv) := by
  refine ps_imp (ps_dput (hu_of hr.rm) ho hi hv hs) fun D σ H ⟨ρ, δ, st, m, en, h⟩ => ?_
  refine ⟨ρ, δ, st, m, en, (Post.bind h).monoE fun v ρ1 st1 H1 e1 m1 h1 x rx => ?_⟩
  refine ⟨ρ1, δ, st1, m1, en.ext e1, (Post.bind h1).monoE fun d ρ2 st2 H2 e2 m2 h2 y ry => ?_⟩
  refine ⟨ρ2, δ, st2, m2, (en.ext e1).ext e2, (Post.bind h2).monoE fun ke ρ3 st3 H3 e3 m3 h3 z rz => ?_⟩
  have rv := (rx.ext e2 _ _).ext e3 _ _
  have rd := ry.ext e3 _ _
  have en3 := ((en.ext e1).ext e2).ext e3
  have fin : ∀ (n : Nat) (k : Key), d = .ref n → z = kV k → Post (XT X fl) ρ3 st3 H3 σ (wx E) (FlP (XT X fl) D) (match st3[n]? with | some (.dk kvs) => if kvs.length < sizeLine then .ok (.next, δ) (st3.set n (.dk (putD kvs k v))) else .stuck | _ => .stuck) →
      ∃ a H4, y = .ref a ∧ DPut H3 a z x H4 ∧ D.nx σ H4 := by
    intro n k ed ez h9
    clear h3 h2 h1 h
    subst ed ez
    cases q : st3[n]? with
    | none => rw [q] at h9; exact False.elim h9
    | some so =>
      rw [q] at h9
      cases so with
      | dk kvs =>
        dsimp only at h9
        by_cases hl : kvs.length < sizeLine
        · rw [if_pos hl] at h9
          obtain ⟨a, rfl, hn, vs, ha, r⟩ := m3.at_ rd q
          have hd : SO.dk kvs ≠ .dead := fun z => by cases z
          have e4 := Ext.set (o' := .dk (putD kvs k v)) (u := .dK (putK vs k x)) m3 hn q hd
          refine ⟨a, _, rfl, DPut.k ha (by rw [← r.length]; exact hl), h9 ρ3 _ e4 (m3.set hn q hd ⟨_, upd_same, RKV.ext e4 _ _ (r.put rv)⟩) σ (en3.ext e4)⟩
        · rw [if_neg hl] at h9
          exact False.elim h9
      | _ => exact False.elim h9
  cases d with
  | ref n =>
    cases ke with
    | str k => exact fin n (.inr k) rfl (R.str_of rz) h3
    | int k => exact fin n (.inl k) rfl (R.int_of rz) h3
    | _ => exact False.elim h3
  | _ => exact False.elim h3
end
/-- {'k': e, ..} -/
def kvE : List (Str × EM) → DEnv → M (List (Key × D))
  | [], _ => pure []
  | (k, m) :: r, δ => m δ >>= fun d => kvE r δ >>= fun ps => pure ((.inr k, d) :: ps)
def mergeD (kvs more : List (Key × D)) : List (Key × D) := more.foldl (fun acc kv => putD acc kv.1 kv.2) kvs
def eDisp (kvs : List (Str × EM)) : EM := fun δ => kvE kvs δ >>= fun ps st => if ps.length ≤ 15 then .ok (.ref st.length) (st ++ [.dk (mergeD [] ps)]) else .stuck
theorem RKV.merge {T : Tab} {ρ : Rho} {st : Store} {H : Hp} : ∀ {more : List (Key × D)} {ws : List (Key × V)} {kvs : List (Key × D)} {vs : List (Key × V)}, RKV T ρ st H more ws → RKV T ρ st H kvs vs → RKV T ρ st H (mergeD kvs more) (mergeK vs ws)
  | [], ws, kvs, vs, h, r => by
    have e : ws = [] := h
    subst e
    exact r
  | (k, d) :: more, ws, kvs, vs, h, r => by
    obtain ⟨x, xs, e, h1, h2⟩ := h
    subst e
    show RKV T ρ st H (mergeD (putD kvs k d) more) (mergeK (putK vs k x) xs)
    exact RKV.merge h2 (r.put h1)
section
variable {X : Cx} {fl : Str → List Str} {Wx : WX} {pos : Pos}
/-- the pairs of a display -/
inductive DKv (X : Cx) (fl : Str → List Str) (Wx : WX) : List (Option Expr) → List Expr → List (Str × EM) → Prop where
  | nil : DKv X fl Wx [] [] []
  | cons {k : Str} {j : Nat} {p : Pos} {v : Expr} {m : EM} {ks : List (Option Expr)} {vs : List Expr} {r : List (Str × EM)} (h : DE X fl Wx v m) (t : DKv X fl Wx ks vs r) : DKv X fl Wx (some (.Constant (.str k) j p) :: ks) (v :: vs) ((k, m) :: r)
theorem pairs_of (kvs : List (Str × EM)) : ∀ {σ : L2.St} {H : Hp} {P : List (Key × D) → Rho → Store → Hp → Prop} {Q : List (V × V) → Hp → Prop},
    (At (XT X fl) σ H fun ρ δ st => Post (XT X fl) ρ st H σ Wx P (kvE kvs δ st)) →
    (∀ ps ρ' st' H', P ps ρ' st' H' → Mt (XT X fl) ρ' st' H' → ∀ vs, RKV (XT X fl) ρ' st' H' ps vs → Q (vs.map fun kv => (kV kv.1, kv.2)) H') →
    tPairs (kvs.map fun km => (tC (.str km.1), tD (XT X fl) Wx km.2)) σ H Q := by
  induction kvs with
  | nil =>
    intro σ H P Q ⟨ρ, δ, st, m, en, h⟩ q
    exact q [] ρ st H (h ρ H .refl m) m [] rfl
  | cons km r ih =>
    intro σ H P Q ⟨ρ, δ, st, m, en, h⟩ q
    obtain ⟨k, mm⟩ := km
    refine ⟨ρ, δ, st, m, en, (Post.bind h).monoE fun d ρ1 st1 H1 e1 m1 h1 x rx => ?_⟩
    refine ih (P := fun ps ρ2 st2 H2 => P ((.inr k, d) :: ps) ρ2 st2 H2 ∧ Ext ρ1 st1 H1 ρ2 st2 H2) ⟨ρ1, δ, st1, m1, en.ext e1, ?_⟩ ?_
    · exact (Post.bind h1).monoE fun ps ρ2 st2 H2 e2 m2 h2 => ⟨h2 ρ2 H2 .refl m2, e2⟩
    · intro ps ρ2 st2 H2 ⟨h2, e2⟩ m2 vs rv
      exact q _ ρ2 st2 H2 h2 m2 ((.inr k, x) :: vs) ⟨x, vs, rfl, rx.ext e2 _ _, rv⟩
theorem pps_of {ks : List (Option Expr)} {vs : List Expr} {kvs : List (Str × EM)} (h : DKv X fl Wx ks vs kvs) : PPs X pos ks vs (kvs.map fun km => (tC (.str km.1), tD (XT X fl) Wx km.2)) ∧ ks.all (·.isSome) = true ∧ ks.length = vs.length ∧ ks.length = kvs.length := by
  induction h with
  | nil => exact ⟨pps_nil, rfl, rfl, rfl⟩
  | cons h t ih => exact ⟨pps_cons pe_str h ih.1, by simpa using ih.2.1, by simp [ih.2.2.1], by simp [ih.2.2.2]⟩
theorem de_disp {ks : List (Option Expr)} {vs : List Expr} {kvs : List (Str × EM)} (h : DKv X fl Wx ks vs kvs) (h0 : ks ≠ []) (h15 : ks.length ≤ 15) : DE X fl Wx (.Dict ks vs pos) (eDisp kvs) := by
  obtain ⟨hp, hall, hl, _⟩ := pps_of (pos := pos) h
  refine pe_imp (pe_disp hp hall hl h0 h15) fun σ H Q ⟨ρ, δ, st, m, en, h⟩ p hp => ?_
  have nD : ¬ ρ.pv p := fun z => by
    obtain ⟨o, q⟩ := m.ptr p z
    rw [hp] at q
    cases q
  refine pairs_of kvs (P := fun ps ρ2 st2 H2 => Ext ρ st H ρ2 st2 H2 ∧ ρ2.pv p ∧ H2 p = some (.dK []) ∧ (ps.length ≤ 15 ∧ Post (XT X fl) ρ2 st2 H2 σ Wx (fun _ _ _ _ => True) (.ok () st2)) ∧ ∀ ρ' H', Ext ρ st H ρ' (st2 ++ [.dk (mergeD [] ps)]) H' → Mt (XT X fl) ρ' (st2 ++ [.dk (mergeD [] ps)]) H' → ∀ x, R (XT X fl) ρ' (st2 ++ [.dk (mergeD [] ps)]) H' (.ref st2.length) x → Q x H')
    ⟨ρ.hid p, δ, st, m.hide hp, en.ext (Ext.hide m hp), ?_⟩ ?_
  · have h' := Post.bind h
    cases q : kvE kvs δ st with
    | stuck => rw [q] at h'; exact False.elim h'
    | exc c ds st' =>
      rw [q] at h'
      show Post _ _ _ _ σ Wx _ (kvE kvs δ st)
      rw [q]
      exact fun ρ' H' C d vs e m' => h' ρ' H' C d vs ((Ext.hide m hp).trans e) m'
    | ok ps st2 =>
      rw [q] at h'
      show Post _ _ _ _ σ Wx _ (kvE kvs δ st)
      rw [q]
      intro ρ2 H2 e2 m2
      have e0 := (Ext.hide m hp).trans e2
      have hl : ps.length ≤ 15 := by
        by_cases hl : ps.length ≤ 15
        · exact hl
        · have z := h' ρ2 H2 e0 m2
          dsimp only at z
          rw [if_neg hl] at z
          exact False.elim z
      refine ⟨e0, e2.pvs p (.inr rfl), (e2.hid p (.inr rfl)).trans upd_same, ⟨hl, fun _ _ _ _ => trivial⟩, fun ρ' H' e' m' x rx => ?_⟩
      have zz : Post (XT X fl) ρ st H σ Wx (fun v ρ' st' H' => ∀ x, R (XT X fl) ρ' st' H' v x → Q x H') ((kvE kvs δ >>= fun ps st => if ps.length ≤ 15 then .ok (.ref st.length) (st ++ [.dk (mergeD [] ps)]) else .stuck) st) := h
      rw [bind_eq, q] at zz
      dsimp only at zz
      rw [if_pos hl] at zz
      exact zz ρ' H' e' m' x rx
  · intro ps ρ2 st2 H2 ⟨e0, hpv, hH, ⟨hl, _⟩, fin⟩ m2 vs rv
    refine ⟨hH, vs, rfl, by rw [← rv.length]; exact hl, ?_⟩
    have t := Tr.adopt (H := H2) (o := .dK (mergeK [] vs)) (so := .dk (mergeD [] ps)) (pv := ρ.pv) m2.len hpv e0.pvs
    refine fin (ρ2.adopt ρ.pv p) _ (Ext.adopt e0 m m2.len hp) (m2.adopt hpv e0.pvs nD ⟨_, upd_same, RKV.tr t _ _ (RKV.merge rv rfl)⟩) (.ref p) ?_
    simp only [R]
    refine ⟨p, rfl, ?_⟩
    show (ρ2.ix ++ [p])[st2.length]? = some p
    rw [List.getElem?_append_right (by rw [m2.len]; exact Nat.le_refl _), m2.len]
    simp
end
end DL
/-! DL9: instances. -/
namespace DL
open PySem PySem.Spec PyProof.Rows L2

/-! ### attributes -/
/-- which classes' instances have the attribute f: cs -/
def fFld (fl : Str → List Str) (cs : List Str) (f : Str) (st : Store) (d : D) : Option D := match d with
  | .ob c ds => if c ∈ cs then ((fl c).zip ds).lookup f else none
  | .ref n => match st[n]? with
    | some (.ins c fs) => if c ∈ cs then fs.lookup f else none
    | _ => none
  | _ => none
/-- what must be known of the classes cs for the attribute f -/
def FldOkR (K : PySem.W.Frag) (mg : Str → Option Value) (cs : List Str) (f : Str) : Prop := ∀ c ∈ cs, ∀ C, mg c = some (.ref C) → Cls K C ∧ NoAttr K C f
abbrev FldOk (X : Cx) (cs : List Str) (f : Str) : Prop := FldOkR X.K X.mg cs f
theorem zip_lookup {T : Tab} {ρ : Rho} {st : Store} {H : Hp} {f : Str} {d : D} : ∀ {ns : List Str} {ds : List D} {vs : List V}, RAll T ρ st H ds vs → (ns.zip ds).lookup f = some d → ∃ x, (ns.zip vs).lookup f = some x ∧ R T ρ st H d x
  | [], _, _, _, h => by simp at h
  | n :: ns, [], _, _, h => by simp at h
  | n :: ns, e :: ds, vs, r, h => by
    simp only [RAll] at r
    obtain ⟨x, xs, rfl, rx, rxs⟩ := r
    rw [List.zip_cons_cons, List.lookup_cons] at h ⊢
    by_cases hn : (f == n) = true
    · rw [hn] at h ⊢
      cases h
      exact ⟨x, rfl, rx⟩
    · have hn' : (f == n) = false := by simpa using hn
      rw [hn'] at h ⊢
      exact zip_lookup rxs h
theorem rkv_lookup {T : Tab} {ρ : Rho} {st : Store} {H : Hp} {f : Str} {d : D} : ∀ {fs : List (Str × D)} {vs : List (Str × V)}, RKV T ρ st H fs vs → fs.lookup f = some d → ∃ x, vs.lookup f = some x ∧ R T ρ st H d x
  | [], _, _, h => by simp at h
  | (n, e) :: fs, vs, r, h => by
    obtain ⟨x, xs, rfl, rx, rxs⟩ := r
    rw [List.lookup_cons] at h ⊢
    by_cases hn : (f == n) = true
    · rw [hn] at h ⊢
      cases h
      exact ⟨x, rfl, rx⟩
    · have hn' : (f == n) = false := by simpa using hn
      rw [hn'] at h ⊢
      exact rkv_lookup rxs h
section
variable {X : Cx} {fl : Str → List Str} {Wx : WX} {E : XK} {o e value : Expr} {ma mv : EM} {cs : List Str} {f : Str} {pos pos' : Pos}
theorem v_fld (ok : FldOk X cs f) : V1 (XT X fl) (fun x H Q => ∃ a C dx fs v, x = .ref a ∧ H a = some (.ins C dx fs) ∧ Cls X.K C ∧ NoAttr X.K C f ∧ fs.lookup f = some v ∧ Q v H) (fFld fl cs f) := by
  intro ρ st H d x v Q m r h q
  unfold fFld at h
  split at h
  · rename_i c ds
    simp only [R] at r
    obtain ⟨a, C, dx, vs, rfl, hc, ha, _, ra⟩ := r
    split at h
    · rename_i hcs
      obtain ⟨k1, k2⟩ := ok c hcs C hc
      obtain ⟨y, hy, ry⟩ := zip_lookup ra h
      exact ⟨a, C, dx, _, y, rfl, ha, k1, k2, hy, q H _ .refl m ry⟩
    · cases h
  · rename_i n
    split at h
    · rename_i c fs hst
      obtain ⟨a, rfl, hn, C, dx, vs, hc, ha, ra⟩ := m.at_ r hst
      split at h
      · rename_i hcs
        obtain ⟨k1, k2⟩ := ok c hcs C hc
        obtain ⟨y, hy, ry⟩ := rkv_lookup ra h
        exact ⟨a, C, dx, _, y, rfl, ha, k1, k2, hy, q H _ .refl m ry⟩
      · cases h
    · cases h
  · cases h
theorem de_fld (ok : FldOk X cs f) (he : DE X fl Wx e ma) (hb : attributeBase e f X.env (eval e X.env) = eval e X.env := by rfl) : DE X fl Wx (.Attribute e f pos) (e1 (fFld fl cs f) ma) :=
  pe_imp (pe_fld he hb) fun _ _ _ h => go1 (v_fld ok) h
def putFD (f : Str) (v : D) : List (Str × D) → List (Str × D)
  | [] => [(f, v)]
  | (g, x) :: r => if g = f then (g, v) :: r else (g, x) :: putFD f v r
theorem RKV.putF {T : Tab} {ρ : Rho} {st : Store} {H : Hp} {f : Str} {d : D} {x : V} (rx : R T ρ st H d x) : ∀ {fs : List (Str × D)} {vs : List (Str × V)}, RKV T ρ st H fs vs → RKV T ρ st H (putFD f d fs) (putF f x vs)
  | [], vs, h => by
    have e : vs = [] := h
    subst e
    exact ⟨x, [], rfl, rx, rfl⟩
  | (g, d') :: r, vs, h => by
    obtain ⟨y, ys, rfl, h1, h2⟩ := h
    have ih := RKV.putF (f := f) rx h2
    unfold putFD L2.putF
    by_cases hg : g = f
    · rw [if_pos hg, if_pos hg]
      exact ⟨x, ys, rfl, rx, h2⟩
    · rw [if_neg hg, if_neg hg]
      exact ⟨y, _, rfl, h1, ih⟩
/-- o.f = value -/
def sFldM (cs : List Str) (f : Str) (ma mv : EM) : SM := fun δ => mv δ >>= fun v => ma δ >>= fun d st => match d with
  | .ref n => match st[n]? with
    | some (.ins c fs) => if c ∈ cs ∧ fs.length < 1000 then .ok (.next, δ) (st.set n (.ins c (putFD f v fs))) else .stuck
    | _ => .stuck
  | _ => .stuck
theorem ds_fld (ok : FldOk X cs f) (ha : DE X fl (wx E) o ma) (hv : DE X fl (wx E) value mv) (hs : swapsWith value (some (.Attribute o f pos')) pos.line X.env = pure false := by rfl) : DS X fl E (.Assign [.Attribute o f pos'] value pos) (sFldM cs f ma mv) := by
  refine ps_imp (ps_fld ha hv hs) fun D σ H ⟨ρ, δ, st, m, en, h⟩ => ?_
  refine ⟨ρ, δ, st, m, en, (Post.bind h).monoE fun v ρ1 st1 H1 e1 m1 h1 x rx => ?_⟩
  refine ⟨ρ1, δ, st1, m1, en.ext e1, (Post.bind h1).monoE fun d ρ2 st2 H2 e2 m2 h2 y ry => ?_⟩
  cases d with
  | ref n =>
    dsimp only at h2
    cases q : st2[n]? with
    | none => rw [q] at h2; exact False.elim h2
    | some so =>
      rw [q] at h2
      cases so with
      | ins c fs =>
        dsimp only at h2
        by_cases hl : c ∈ cs ∧ fs.length < 1000
        · rw [if_pos hl] at h2
          obtain ⟨a, rfl, hn, C, dx, vs, hc, hH, r⟩ := m2.at_ ry q
          obtain ⟨k1, k2⟩ := ok c hl.1 C hc
          have hd : SO.ins c fs ≠ .dead := fun z => by cases z
          have e4 := Ext.set (o' := .ins c (putFD f v fs)) (u := .ins C dx (putF f x vs)) m2 hn q hd
          refine ⟨a, C, dx, vs, rfl, hH, k1, k2, by rw [← r.length]; exact hl.2, h2 ρ2 _ e4 (m2.set hn q hd ⟨C, dx, _, hc, upd_same, RKV.ext e4 _ _ (r.putF (rx.ext e2 _ _))⟩) σ (((en.ext e1).ext e2).ext e4)⟩
        · rw [if_neg hl] at h2
          exact False.elim h2
      | _ => exact False.elim h2
  | _ => exact False.elim h2
end

/-! ### a new instance -/
/-- a def of a class that computes m -/
structure Md (P : Program) (w : World) (K : PySem.W.Frag) (mg : Str → Option Value) (base : Heap) (fl : Str → List Str) (k : Nat) (f : Addr) (fd : FuncData) (ps : List Str) (m : List D → M D) : Prop where
  fn : FnG P w K mg base k f fd ps (spD ⟨K, mg, fl⟩ ps.length m)
  bd : Binds K fd ps []
/-- C(..), the instance not changed behind its making -/
def mk (fl : Str → List Str) (c : Str) (m : List D → M D) (ds : List D) : M D := fun st => match m (.ref st.length :: ds) (st ++ [.ins c []]) with
  | .ok .non st' => match st'[st.length]? with
    | some (.ins c' fs) => if c' = c ∧ fs.map (·.1) = fl c then .ok (.ob c (fs.map (·.2))) (st'.set st.length .dead) else .stuck
    | _ => .stuck
  | .ok _ _ => .stuck
  | .exc c ds st' => .exc c ds st'
  | .stuck => .stuck
def eMake (fl : Str → List Str) (c : Str) (n : Nat) (m : List D → M D) (a : AM) : EM := fun δ => a δ >>= fun ds => if ds.length = n then mk fl c m ds else M.stuck
def permL {α : Type} (is : List Nat) (xs : List α) : List α := is.filterMap fun i => xs[i]?
/-- C(k = v, ..): is tells for each parameter the place of its keyword -/
def eMakeK (fl : Str → List Str) (c : Str) (n : Nat) (is : List Nat) (m : List D → M D) (a : AM) : EM := fun δ => a δ >>= fun ds => if ds.length = n then mk fl c m (permL is ds) else M.stuck
theorem RKV.split {T : Tab} {ρ : Rho} {st : Store} {H : Hp} : ∀ {fs : List (Str × D)} {vs : List (Str × V)}, RKV T ρ st H fs vs → vs = (fs.map (·.1)).zip (vs.map (·.2)) ∧ RAll T ρ st H (fs.map (·.2)) (vs.map (·.2))
  | [], vs, h => by
    have e : vs = [] := h
    subst e
    exact ⟨rfl, RAll.nil⟩
  | (n, d) :: fs, vs, h => by
    obtain ⟨x, xs, rfl, rx, rxs⟩ := h
    obtain ⟨e, r⟩ := RKV.split rxs
    refine ⟨?_, RAll.cons rx r⟩
    rw [List.map_cons, List.map_cons, List.zip_cons_cons, ← e]
theorem RAll.perm {T : Tab} {ρ : Rho} {st : Store} {H : Hp} {ds : List D} {vs : List V} (h : RAll T ρ st H ds vs) : ∀ is : List Nat, RAll T ρ st H (permL is ds) (permL is vs)
  | [] => RAll.nil
  | i :: is => by
    have ih := RAll.perm h is
    unfold permL at ih ⊢
    cases q : ds[i]? with
    | none =>
      have q2 : vs[i]? = none := by
        rw [List.getElem?_eq_none_iff] at q ⊢
        rw [← h.length]
        exact q
      rw [List.filterMap_cons_none q, List.filterMap_cons_none q2]
      exact ih
    | some d =>
      obtain ⟨x, q2, r⟩ := h.get q
      rw [List.filterMap_cons_some q, List.filterMap_cons_some q2]
      exact RAll.cons r ih
theorem vals_perm {vs : List V} {us : List Value} (h : Vals vs us) : ∀ is : List Nat, Vals (permL is vs) (permL is us)
  | [] => .nil
  | i :: is => by
    have ih := vals_perm h is
    unfold permL at ih ⊢
    cases q : vs[i]? with
    | none =>
      have q2 : us[i]? = none := by
        rw [List.getElem?_eq_none_iff] at q ⊢
        rw [← h.length]
        exact q
      rw [List.filterMap_cons_none q, List.filterMap_cons_none q2]
      exact ih
    | some d =>
      obtain ⟨x, q2, r⟩ := h.get q
      rw [List.filterMap_cons_some q, List.filterMap_cons_some q2]
      exact .cons r ih
/-- keywords bound -/
def BindsK (K : PySem.W.Frag) (fd : FuncData) (ps ks : List Str) (is : List Nat) : Prop :=
  ∀ (s : Shared) (u : Value) (ws : List Value), K.In s.heap → ws.length = ks.length → BindsTo s fd ⟨[u], ks.zip ws⟩ (ps.zip (u :: permL is ws))
section
variable {X : Cx} {fl : Str → List Str} {Wx : WX} {k n : Nat} {f C : Addr} {fd : FuncData} {ps ks : List Str} {x c : Str} {m : List D → M D} {is : List Nat} {mA : AM} {e : Expr} {es : List Expr} {kws : List Keyword} {p pos : Pos}
/-- what is wanted of __init__'s run -/
theorem mk_sp {ρ : Rho} {st : Store} {H : Hp} {σ : L2.St} {Q : VK} {ds : List D} {vs : List V} (hm : X.mg c = some (.ref C)) (mt : Mt (XT X fl) ρ st H) (r : RAll (XT X fl) ρ st H ds vs) (hl : ds.length + 1 = n)
    (h : Post (XT X fl) ρ st H σ Wx (fun v ρ' st' H' => ∀ x, R (XT X fl) ρ' st' H' v x → Q x H') (mk fl c m ds st)) :
    ∀ x dx, H x = none → H dx = none → dx ≠ x → spD (XT X fl) n m (.ref x :: vs) (upd (upd H dx (.own x)) x (.ins C dx [])) (fun v H3 => v = .non ∧ Q (.ref x) H3) (WE Wx σ) := by
  intro x dx hx hdx ne
  have e1 := Ext.new (ρ := ρ) (st := st) (o := .own x) mt hdx
  have m1 := mt.new (o := .own x) hdx
  have hx1 : upd H dx (.own x) x = none := by rw [upd_ne (Ne.symm ne)]; exact hx
  have e2 := Ext.push (u := .ins C dx []) (o := .ins c []) m1 hx1
  have m2 : Mt (XT X fl) (ρ.snoc x) (st ++ [.ins c []]) (upd (upd H dx (.own x)) x (.ins C dx [])) := m1.push hx1 ⟨C, dx, [], hm, upd_same, rfl⟩
  have e12 := e1.trans e2
  have hn : (ρ.snoc x).ix[st.length]? = some x := push_last mt.len
  refine ⟨ρ.snoc x, _, .ref st.length :: ds, m2, .cons (by simp only [R]; exact ⟨x, rfl, hn⟩) (r.ext e12 _ _), by simpa using hl, ?_⟩
  unfold mk at h
  cases q : m (.ref st.length :: ds) (st ++ [.ins c []]) with
  | stuck => rw [q] at h; exact False.elim h
  | exc c' ds' st' =>
    rw [q] at h
    exact fun ρ' H' C' d vs e m' => h ρ' H' C' d vs (e12.trans e) m'
  | ok v st' =>
    rw [q] at h
    intro ρ' H' e' m' y ry
    cases v with
    | non =>
      dsimp only at h
      refine ⟨R.non_of ry, ?_⟩
      cases q2 : st'[st.length]? with
      | none => rw [q2] at h; exact False.elim h
      | some so =>
        rw [q2] at h
        cases so with
        | ins c' fs =>
          dsimp only at h
          by_cases hc : c' = c ∧ fs.map (·.1) = fl c
          · rw [if_pos hc] at h
            obtain ⟨rfl, hf⟩ := hc
            have hn' := e'.pre _ _ hn
            obtain ⟨C', dx', vs', hc', hH, rv⟩ := m'.obj _ _ _ hn' q2
            have e3 := Ext.die (H := H') hn' q2
            have m3 := m'.die hn' q2
            refine h ρ' H' ((e12.trans e').trans e3) m3 (.ref x) ?_
            obtain ⟨ez, rz⟩ := rv.split
            simp only [R]
            refine ⟨x, C', dx', vs'.map (·.2), rfl, hc', ?_, notLive_die m' hn' q2, rz.ext e3 _ _⟩
            show H' x = some (.ins C' dx' ((fl c').zip (vs'.map (·.2))))
            rw [← hf, ← ez]
            exact hH
          · rw [if_neg hc] at h
            exact False.elim h
        | _ => exact False.elim h
    | _ => exact False.elim h
theorem run_mkG {pins : List (Addr × Obj)} {σ : L2.St} {H : Hp} {s : Shared} {Q : VK} {us us2 : List Value} {kw : List (Str × Value)} {vs2 : List V} {sp : Sp} {E : XK} (M : Mk X.K C f) (F : FnG X.prog X.w X.K X.mg X.base k f fd ps sp) (hr : RoomG (k + 1) X.A)
    (hx : PassesAt (L2.CX X.prog X.w) X σ E) (I : Inv X pins σ H s) (r : Vals vs2 us2)
    (hb : ∀ (s : Shared) (u : Value), X.K.In s.heap → (u :: us2).length = ps.length → BindsTo s fd ⟨u :: us, kw⟩ (ps.zip (u :: us2)))
    (h : ∀ x dx, H x = none → H dx = none → dx ≠ x → sp (.ref x :: vs2) (upd (upd H dx (.own x)) x (.ins C dx [])) (fun v H2 => v = .non ∧ Q (.ref x) H2) E) :
    wpAny (model X.prog X.w) X.A (call (.ref C) us kw) (EP X pins σ Q) X.xe s := by
  have hq := h (s.heap.objs.size + 1) s.heap.objs.size (I.hok.fresh (Nat.le_succ _)) (I.hok.fresh (Nat.le_refl _)) (Nat.ne_of_lt (Nat.lt_succ_self _))
  have I2 := Inv.made (C := C) I
  have r2 : Vals (V.ref (s.heap.objs.size + 1) :: vs2) (Value.ref (s.heap.objs.size + 1) :: us2) := .cons rfl r
  have hl : (Value.ref (s.heap.objs.size + 1) :: us2).length = ps.length := by
    have e := r2.length
    rw [F.len _ _ _ _ hq] at e
    exact e.symm
  refine wpAny_call (make_map (f := f) I.kIn M.makes M.init (beq_iff_eq.mp M.fn) (codeAny_mono (F.run _ X.stack _ _ ⟨Value.ref (s.heap.objs.size + 1) :: us, kw⟩ (Value.ref (s.heap.objs.size + 1) :: us2) _ _ E ⟨hr.rm.make C us kw, hr.gd⟩
    (I2.env0.make C us kw) (hb _ _ I2.kIn hl) r2 hq) fun r s' hq' => ?_))
  cases r with
  | error e => exact hx pins _ _ e s' I2 hq'
  | ok fl =>
    cases fl with
    | ret u =>
      obtain ⟨v, H', I3, rv, ev, q3⟩ := I2.after hq'
      subst ev
      exact ⟨rv, ⟨V.ref (s.heap.objs.size + 1), H', I3, rfl, q3⟩⟩
    | next => exact False.elim hq'
    | brk => exact False.elim hq'
    | cont => exact False.elim hq'
/-- x(e, ..), x a class of the text with an __init__ of its own -/
theorem de_make (M : Mk X.K C f) (F : Md X.prog X.w X.K X.mg X.base fl k f fd ps m) (hr : RoomG (k + 1) X.A) (tk : Takes X Wx) (hg : Gl X x) (hm : X.mg x = some (.ref C)) (hn : n + 1 = ps.length) (ha : DA X fl Wx (e :: es) mA)
    (hdb : (x == ("__debug__" : Str)) = false := by decide) (he : starEach (e :: es) X.env = (false, eval e X.env) :: starEach es X.env := by rfl) (hpl : (backTo pos (starEach es X.env)).any (·.1) = false := by rfl) :
    DE X fl Wx (.Call (.Name x p) (e :: es) [] pos) (eMake fl x n m mA) := by
  refine ⟨fun pins s σ H Q I ⟨ρ, δ, st, mt, en, h⟩ => ?_⟩
  refine wpAny_Call_Name_kw (ld_glob I hg hm ?_ hdb)
  have h' : tDA (XT X fl) Wx mA σ H fun vs H1 => ∃ ρ1 st1 ds, Mt (XT X fl) ρ1 st1 H1 ∧ RAll (XT X fl) ρ1 st1 H1 ds vs ∧ ds.length + 1 = ps.length ∧ Post (XT X fl) ρ1 st1 H1 σ Wx (fun v ρ' st' H' => ∀ x, R (XT X fl) ρ' st' H' v x → Q x H') (mk fl x m ds st1) := by
    refine ⟨ρ, δ, st, mt, en, (Post.bind h).monoE fun ds ρ1 st1 H1 e1 m1 h1 xs rxs => ?_⟩
    by_cases hl : ds.length = n
    · rw [if_pos hl] at h1
      exact ⟨ρ1, st1, ds, m1, rxs, by rw [hl]; exact hn, h1⟩
    · rw [if_neg hl] at h1
      exact False.elim h1
  refine PySem.W.callWith_K (h₀ := X.base) I.ok.mod.kin M.kp (thn (ha.run pos pins s σ H _ I h') fun us s1 ⟨vs, H1, I1, r, ρ1, st1, ds, m1, rxs, hl, q⟩ => ⟨I1.kIn, ?_⟩) he hpl
  refine run_mkG (us := us) (kw := []) M F.fn hr (passAt tk σ) I1 r (fun s u kin hl => ?_) (mk_sp hm m1 rxs hl q)
  have := F.bd s (u :: us) kin (by simpa using hl)
  simpa using this
/-- x(k = v, ..) -/
theorem de_makeK (M : Mk X.K C f) (F : Md X.prog X.w X.K X.mg X.base fl k f fd ps m) (hr : RoomG (k + 1) X.A) (tk : Takes X Wx) (hg : Gl X x) (hm : X.mg x = some (.ref C)) (hb : BindsK X.K fd ps ks is) (hi : ∀ i ∈ is, i < ks.length) (hn : is.length + 1 = ps.length)
    (hkw : PK X kws (tDA (XT X fl) Wx mA))
    (hall : (backToKw pos (keywordEach kws X.env)).all (·.1.isSome) = true := by rfl) (hks : (backToKw pos (keywordEach kws X.env)).filterMap (·.1) = ks := by rfl) (hdb : (x == ("__debug__" : Str)) = false := by decide)
    (hpl : ((backTo pos (starEach [] X.env)).any (·.1) || (backToKw pos (keywordEach kws X.env)).any (·.1.isNone)) = false := by rfl) :
    DE X fl Wx (.Call (.Name x p) [] kws pos) (eMakeK fl x ks.length is m mA) := by
  refine ⟨fun pins s σ H Q I ⟨ρ, δ, st, mt, en, h⟩ => ?_⟩
  refine wpAny_Call_Name_kw (ld_glob I hg hm ?_ hdb)
  have h' : tDA (XT X fl) Wx mA σ H fun vs H1 => ∃ ρ1 st1 ds, Mt (XT X fl) ρ1 st1 H1 ∧ RAll (XT X fl) ρ1 st1 H1 ds vs ∧ ds.length = ks.length ∧ Post (XT X fl) ρ1 st1 H1 σ Wx (fun v ρ' st' H' => ∀ x, R (XT X fl) ρ' st' H' v x → Q x H') (mk fl x m (permL is ds) st1) := by
    refine ⟨ρ, δ, st, mt, en, (Post.bind h).monoE fun ds ρ1 st1 H1 e1 m1 h1 xs rxs => ?_⟩
    by_cases hl : ds.length = ks.length
    · rw [if_pos hl] at h1
      exact ⟨ρ1, st1, ds, m1, rxs, hl, h1⟩
    · rw [if_neg hl] at h1
      exact False.elim h1
  refine PySem.W.callWith_KW0 (h₀ := X.base) I.ok.mod.kin M.kp hall ?_ hpl
  refine thn (hkw.run pos pins s σ H _ I h') fun ws s2 ⟨zs, H2, I2, rz, ρ1, st1, ds, m1, rxs, hl, q⟩ => ⟨I2.kIn, ?_⟩
  rw [hks]
  have hpl : ∀ {α : Type} (xs : List α), xs.length = ks.length → ∀ js : List Nat, (∀ i ∈ js, i < ks.length) → (permL js xs).length = js.length := by
    intro α xs hx js
    induction js with
    | nil => intro _; rfl
    | cons i js ih =>
      intro hj
      have q : xs[i]? = some (xs[i]'(by rw [hx]; exact hj i List.mem_cons_self)) := List.getElem?_eq_getElem _
      have ih' := ih fun j hm => hj j (List.mem_cons_of_mem _ hm)
      unfold permL at ih' ⊢
      rw [List.filterMap_cons_some q, List.length_cons, ih', List.length_cons]
  refine run_mkG (us := []) (kw := ks.zip ws) M F.fn hr (passAt tk σ) I2 (vals_perm rz is) (fun s u kin _ => hb s u ws kin ?_) (mk_sp hm m1 (rxs.perm is) ?_ q)
  · rw [← rz.length, ← rxs.length, hl]
  · rw [hpl ds hl is hi]
    exact hn
theorem dk_nil : PK X [] (tDA (XT X fl) Wx aNil) := by
  refine ⟨fun pos pins s σ H Q I ⟨ρ, δ, st, m, en, h⟩ => ?_⟩
  exact pk_nil.run pos pins s σ H Q I (h ρ H .refl m [] RAll.nil)
theorem dk_cons {nm : Option Str} {kpos : Pos} {ma : EM} (ha : DE X fl Wx e ma) (hr : PK X kws (tDA (XT X fl) Wx mA)) : PK X (⟨nm, e, kpos⟩ :: kws) (tDA (XT X fl) Wx (aCons ma mA)) := by
  refine ⟨fun pos pins s σ H Q I ⟨ρ, δ, st, m, en, h⟩ => ?_⟩
  refine (pk_cons ha hr).run pos pins s σ H Q I ?_
  refine ⟨ρ, δ, st, m, en, (Post.bind h).monoE fun d ρ1 st1 H1 e1 m1 h1 x rx => ?_⟩
  refine ⟨ρ1, δ, st1, m1, en.ext e1, (Post.bind h1).monoE fun ds ρ2 st2 H2 e2 m2 h2 xs rxs => ?_⟩
  exact h2 ρ2 H2 .refl m2 (x :: xs) (.cons (rx.ext e2 _ _) rxs)
end
theorem Fun.bindsK {K : PySem.W.Frag} {x qual : Str} {st : Stmt} {f : Addr} {fd : FuncData} {ps ks : List Str} {is : List Nat} (F : Fun K x qual st f fd)
    (h : ∀ (kV doc pm : Value) (an : Option Addr) (cdv ct : Value) (u : Value) (ws : List Value), ws.length = ks.length → bindArgs (PySem.W.fnOf x qual (defArgs st) (defBody st) (defScope st) .none kV doc pm an cdv ct) ⟨[u], ks.zip ws⟩ = pure (ps.zip (u :: permL is ws))) : BindsK K fd ps ks is := by
  obtain ⟨oc, od, kV, doc, pm, an, cdv, ct, osl, rfl, lk, hcd⟩ := F.ex
  exact fun s u ws _ hl => .of_eq (h kV doc pm an cdv ct u ws hl)
end DL
/-! DL10: == of like things, own ==; targets; a list made and stored. -/
namespace DL
open PySem PySem.Spec PyProof.Rows L2

/-! ### a thing is equal to a like one -/
def reflIn : Nat → D → Bool
  | 0, _ => false
  | _ + 1, .non => true
  | _ + 1, .bl _ => true
  | _ + 1, .int _ => true
  | _ + 1, .str _ => true
  | n + 1, .tup ds => ds.all (reflIn n)
  | n + 1, .lst ds => ds.all (reflIn n)
  | _ + 1, .ref _ => true
  | _ + 1, _ => false
def reflTop (st : Store) : D → Bool
  | .tup ds => ds.all (reflIn 40)
  | .lst ds => ds.all (reflIn 40)
  | .ref n => match st[n]? with
    | some (.dk _) => true
    | _ => false
  | _ => false
theorem all_yes (n : Nat) : ((List.range n).all fun _ => true) = true := List.all_eq_true.mpr fun _ _ => rfl
theorem all_get {α : Type} {p : α → Bool} {xs : List α} (h : xs.all p = true) {i : Nat} {x : α} (e : xs[i]? = some x) : p x = true := by
  rw [List.all_eq_true] at h
  exact h x (List.mem_of_getElem? e)
section
variable {X : Cx} {fl : Str → List Str} {pins : List (Addr × Obj)} {σ : L2.St} {ρ : Rho} {st : Store} {H : Hp} {s : Shared}
theorem items_refl (I : Inv X pins σ H s) {n : Nat} {ds : List D}
    (ih : ∀ (d : D) (x y : V) (u v : Value), reflIn n d = true → R (XT X fl) ρ st H d x → R (XT X fl) ρ st H d y → RelV x u → RelV y v → PySem.W.EqTree X.prog X.w s n u v true)
    {xs ys : List V} {us vs : List Value} (hd : ds.all (reflIn n) = true) (r1 : RAll (XT X fl) ρ st H ds xs) (r2 : RAll (XT X fl) ρ st H ds ys) (v1 : Vals xs us) (v2 : Vals ys vs) :
    us.length = vs.length ∧ ∀ j (h1 : j < us.toArray.size) (h2 : j < vs.toArray.size), PySem.W.EqTree X.prog X.w s n us.toArray[j] vs.toArray[j] true := by
  have l1 := r1.length.trans v1.length
  have l2 := r2.length.trans v2.length
  refine ⟨l1.symm.trans l2, fun j h1 h2 => ?_⟩
  have h1' : j < us.length := by simpa using h1
  have h2' : j < vs.length := by simpa using h2
  have hj : j < ds.length := by omega
  obtain ⟨x, ex, rx⟩ := r1.get (List.getElem?_eq_getElem hj)
  obtain ⟨y, ey, ry⟩ := r2.get (List.getElem?_eq_getElem hj)
  obtain ⟨u, eu, ru⟩ := v1.get ex
  obtain ⟨v, ev, rv⟩ := v2.get ey
  have e1 : us.toArray[j] = u := by
    rw [List.getElem?_eq_getElem h1'] at eu
    simpa using Option.some.inj eu
  have e2 : vs.toArray[j] = v := by
    rw [List.getElem?_eq_getElem h2'] at ev
    simpa using Option.some.inj ev
  rw [e1, e2]
  exact ih _ x y u v (all_get hd (List.getElem?_eq_getElem hj)) rx ry ru rv
theorem tree_refl (I : Inv X pins σ H s) (m : Mt (XT X fl) ρ st H) : ∀ (n : Nat) (d : D) (x y : V) (u v : Value), reflIn n d = true → R (XT X fl) ρ st H d x → R (XT X fl) ρ st H d y → RelV x u → RelV y v → PySem.W.EqTree X.prog X.w s n u v true
  | 0, d, x, y, u, v, h, _, _, _, _ => by simp [reflIn] at h
  | n + 1, .non, x, y, u, v, h, rx, ry, ru, rv => by
    cases R.non_of rx
    cases R.non_of ry
    cases ru
    cases rv
    exact .same
  | n + 1, .bl b, x, y, u, v, h, rx, ry, ru, rv => by
    cases R.bl_of rx
    cases R.bl_of ry
    cases ru
    cases rv
    exact .same
  | n + 1, .int i, x, y, u, v, h, rx, ry, ru, rv => by
    cases R.int_of rx
    cases R.int_of ry
    refine .leaf fun A _ => ?_
    have q := eqAt_V (A := A) (s := s) ru rv rfl rfl
    simpa [eqV] using q
  | n + 1, .str i, x, y, u, v, h, rx, ry, ru, rv => by
    cases R.str_of rx
    cases R.str_of ry
    refine .leaf fun A _ => ?_
    have q := eqAt_V (A := A) (s := s) ru rv rfl rfl
    simpa [eqV] using q
  | n + 1, .tup ds, x, y, u, v, h, rx, ry, ru, rv => by
    obtain ⟨a, xs, rfl, qa, ra⟩ := rx.tup_of
    obtain ⟨b, ys, rfl, qb, rb⟩ := ry.tup_of
    cases ru
    cases rv
    by_cases hab : a = b
    · subst hab
      exact .same
    · obtain ⟨us, vu, iu, _⟩ := I.tuple qa
      obtain ⟨vs, vv, iv, _⟩ := I.tuple qb
      obtain ⟨hl, ht⟩ := items_refl I (tree_refl I m n) (by simpa [reflIn] using h) ra rb vu vv
      have t := PySem.W.EqTree.tuples (e := fun _ => true) hab iu iv ht
      simpa [hl, all_yes] using t
  | n + 1, .lst ds, x, y, u, v, h, rx, ry, ru, rv => by
    obtain ⟨a, xs, rfl, qa, ra⟩ := rx.lst_of
    obtain ⟨b, ys, rfl, qb, rb⟩ := ry.lst_of
    cases ru
    cases rv
    by_cases hab : a = b
    · subst hab
      exact .same
    · obtain ⟨us, vu, ⟨ou, nu, hu, cu, _, du⟩, _⟩ := I.list (SqL.of qa)
      obtain ⟨vs, vv, ⟨ov, nv, hv, cv, _, dv⟩, _⟩ := I.list (SqL.of qb)
      obtain ⟨hl, ht⟩ := items_refl I (tree_refl I m n) (by simpa [reflIn] using h) ra rb vu vv
      have t := PySem.W.EqTree.lists (e := fun _ => true) hab (show s.heap.IsList a us.toArray from ⟨ou, hu, cu, nu, du⟩) (show s.heap.IsList b vs.toArray from ⟨ov, hv, cv, nv, dv⟩) (by simpa using hl) ht
      simpa [all_yes] using t
  | n + 1, .ref k, x, y, u, v, h, rx, ry, ru, rv => by
    simp only [R] at rx ry
    obtain ⟨a, rfl, ha⟩ := rx
    obtain ⟨b, rfl, hb⟩ := ry
    rw [ha] at hb
    cases hb
    cases ru
    cases rv
    exact .same
  | n + 1, .ob _ _, x, y, u, v, h, _, _, _, _ => by simp [reflIn] at h
  | n + 1, .cst _, x, y, u, v, h, _, _, _, _ => by simp [reflIn] at h
  | n + 1, .clo _ _, x, y, u, v, h, _, _, _, _ => by simp [reflIn] at h
  | n + 1, .scr _, x, y, u, v, h, _, _, _, _ => by simp [reflIn] at h
theorem eq_refl {k : Nat} {A : Around} {E : Value → Shared → Prop} (hr : RoomG k A) (I : Inv X pins σ H s) (m : Mt (XT X fl) ρ st H) {d : D} {x y : V} {u v : Value} {Q : Value → Shared → Prop} (h : reflTop st d = true) (rx : R (XT X fl) ρ st H d x) (ry : R (XT X fl) ρ st H d y) (ru : RelV x u) (rv : RelV y v)
    (q : Q (.bool true) s) : wpAny (model X.prog X.w) A (compareOp .Eq u v) Q E s := by
  have hu := hr.rm.units
  cases d with
  | tup ds =>
    obtain ⟨a, xs, rfl, qa, ra⟩ := rx.tup_of
    obtain ⟨b, ys, rfl, qb, rb⟩ := ry.tup_of
    cases ru
    cases rv
    obtain ⟨us, vu, iu, _⟩ := I.tuple qa
    obtain ⟨vs, vv, iv, _⟩ := I.tuple qb
    obtain ⟨hl, ht⟩ := items_refl I (tree_refl I m 40) h ra rb vu vv
    refine PySem.W.eq_tuplesT (e := fun _ => true) iu iv ht (by omega) ?_
    simpa [hl, all_yes] using q
  | lst ds =>
    obtain ⟨a, xs, rfl, qa, ra⟩ := rx.lst_of
    obtain ⟨b, ys, rfl, qb, rb⟩ := ry.lst_of
    cases ru
    cases rv
    obtain ⟨us, vu, ⟨ou, nu, hu', cu, _, du⟩, _⟩ := I.list (SqL.of qa)
    obtain ⟨vs, vv, ⟨ov, nv, hv, cv, _, dv⟩, _⟩ := I.list (SqL.of qb)
    obtain ⟨hl, ht⟩ := items_refl I (tree_refl I m 40) h ra rb vu vv
    refine PySem.W.eq_listsT (e := fun _ => true) (show s.heap.IsList a us.toArray from ⟨ou, hu', cu, nu, du⟩) (show s.heap.IsList b vs.toArray from ⟨ov, hv, cv, nv, dv⟩) (by simpa using hl) ht (by omega) ?_
    simpa [all_yes] using q
  | ref n =>
    simp only [reflTop] at h
    cases q1 : st[n]? with
    | none => rw [q1] at h; cases h
    | some so =>
      rw [q1] at h
      cases so with
      | dk kvs =>
        simp only [R] at rx ry
        obtain ⟨a, rfl, ha⟩ := rx
        obtain ⟨b, rfl, hb⟩ := ry
        rw [ha] at hb
        cases hb
        cases ru
        cases rv
        obtain ⟨vs, hH, _⟩ := m.obj n a _ ha q1
        obtain ⟨_, hsm, ws, kv, dd⟩ := dk_of I.hok hH
        have nd : (ws.map (·.1)).Nodup := let ⟨_, _, _, _, _, _, _, _, nd⟩ := dd; nd
        refine PySem.W.eq_dictsT (n := 0) (e := fun _ => true) hsm hsm dd dd (fun k v y hm hv => ?_) (by omega) ?_
        · rw [valueAt_of_mem nd hm] at hv
          cases hv
          exact .same
        · have e : (ws.all fun p => (valueAt ws p.1).isSome && true) = true := by
            rw [List.all_eq_true]
            rintro ⟨k, v⟩ hm
            rw [valueAt_of_mem nd hm]
            rfl
          rw [e]
          simpa using q
      | _ => cases h
  | _ => cases h
end
open Classical in
/-- data by what they are, or a thing and a like one -/
noncomputable def fEqD (st : Store) (d e : D) : Option D := match fEq st d e with
  | some v => some v
  | none => if d = e ∧ reflTop st d = true then some (.bl true) else none
def rEqD (T : Tab) : R2 := fun x y H Q => rEqA T false x y H Q ∨ ∃ ρ st d, Mt T ρ st H ∧ R T ρ st H d x ∧ R T ρ st H d y ∧ reflTop st d = true ∧ Q (.bl true) H
theorem op_eqD {X : Cx} {fl : Str → List Str} {k : Nat} (hr : RoomG k X.A) (hS : SysB X.base) : OpR X (compareOp .Eq) (rEqD (XT X fl)) := by
  intro pins s σ H x y v u Q I rx ry h
  rcases h with h | ⟨ρ, st, d, m, rd, re, hc, q⟩
  · exact op_eqA hr hS pins s σ H x y v u Q I rx ry h
  · exact eq_refl hr I m hc rd re rx ry ⟨.bl true, H, I, rfl, q⟩
theorem v_eqD {T : Tab} : V2 T (rEqD T) fEqD := by
  intro ρ st H d e x y v Q m rx ry h hq
  unfold fEqD at h
  cases q1 : fEq st d e with
  | some w =>
    rw [q1] at h
    cases h
    exact .inl (v_eq ρ st H d e x y v Q m rx ry q1 hq)
  | none =>
    rw [q1] at h
    dsimp only at h
    split at h
    · rename_i hc
      obtain ⟨rfl, hc⟩ := hc
      cases h
      exact .inr ⟨ρ, st, d, m, rx, ry, hc, hq H _ .refl m R.bl⟩
    · cases h

/-! ### an own == -/
/-- the methods' readings by classes; all else by f -/
def fOwn (tbl : Str → Option (List D → M D)) (cs : List Str) (f : Store → D → D → Option D) (d e : D) : M D := fun st => match d, e with
  | .ob c _, .ob c' _ => match tbl c with
    | some m => if c' ∈ cs then (match m [d, e] st with
      | .ok (.bl b) st' => .ok (.bl b) st'
      | _ => .stuck) else .stuck
    | none => .stuck
  | .ob _ _, _ => .stuck
  | _, _ => lift (f st d e) st
def e2M (f : D → D → M D) (a b : EM) : EM := fun δ => a δ >>= fun x => b δ >>= fun y => f x y
/-- the method of each class -/
def OwnOkR (P : Program) (w : World) (K : PySem.W.Frag) (mg : Str → Option Value) (base : Heap) (fl : Str → List Str) (op : CmpOp) (k : Nat) (tbl : Str → Option (List D → M D)) (cs : List Str) : Prop :=
  ∀ c m, tbl c = some m → ∃ C f fd ps, mg c = some (.ref C) ∧ PySem.W.findIn K (.ref C) (cmpInfo op).2.1 = some (some (.ref f)) ∧ PySem.W.isFn K (.ref f) = true ∧ ps.length = 2 ∧ Md P w K mg base fl k f fd ps m ∧
    ∀ c' ∈ cs, ∀ C', mg c' = some (.ref C') → PySem.W.notFirst K C (.ref C') = true
abbrev OwnOk (X : Cx) (fl : Str → List Str) (op : CmpOp) (k : Nat) (tbl : Str → Option (List D → M D)) (cs : List Str) : Prop := OwnOkR X.prog X.w X.K X.mg X.base fl op k tbl cs
def rOwn (X : Cx) (fl : Str → List Str) (r : R2) (tbl : Str → Option (List D → M D)) (cs : List Str) : R2 := fun x y H Q => r x y H Q ∨ ∃ ρ st c ds c' es m, Mt (XT X fl) ρ st H ∧ R (XT X fl) ρ st H (.ob c ds) x ∧ R (XT X fl) ρ st H (.ob c' es) y ∧ tbl c = some m ∧ c' ∈ cs ∧
  Post (XT X fl) ρ st H [] WF (fun v ρ' st' H' => ∃ b, v = .bl b ∧ Q (.bl b) H') (m [.ob c ds, .ob c' es] st)
section
variable {X : Cx} {fl : Str → List Str} {Wx : WX} {op : CmpOp} {k : Nat} {r : R2} {f : Store → D → D → Option D} {tbl : Str → Option (List D → M D)} {cs : List Str} {a b : Expr} {ma mb : EM} {pos : Pos}
theorem op_own (ho : OpR X (compareOp op) r) (hop : compareOp op = richCompare op) (hr : RoomG k X.A) (ok : OwnOk X fl op k tbl cs) : OpR X (compareOp op) (rOwn X fl r tbl cs) := by
  intro pins s σ H x y v u Q I rx ry h
  rcases h with h | ⟨ρ, st, c, ds, c', es, m, mt, rd, re, ht, hc', q⟩
  · exact ho pins s σ H x y v u Q I rx ry h
  · obtain ⟨C, g, fd, ps, hC, hs, hf, hl, F, hn⟩ := ok c m ht
    have rd0 := rd
    have re0 := re
    simp only [R] at rd re
    obtain ⟨a1, C1, dx, vs, rfl, hc1, hH, _, _⟩ := rd
    obtain ⟨a2, C2, dy, ws, rfl, hc2, hH2, _, _⟩ := re
    have e1 : C1 = C := by
      have := hc1.symm.trans hC
      simpa using this
    subst e1
    cases rx
    cases ry
    obtain ⟨mA, J, _⟩ := ins_get I.hok hH
    obtain ⟨mB, J', _⟩ := ins_get I.hok hH2
    obtain ⟨od, J, _⟩ := J.look
    obtain ⟨od', J', _⟩ := J'.look
    obtain ⟨mm, hF⟩ := I.fr
    rw [hop]
    refine PySem.W.cmp_K (op := op) (tb := .ref C2) hr.rm.units0 hF I.ok.mod.kin J J'.type (hn c' hc' C2 hc2) hs hf ?_
    have r2 : Vals [V.ref a1, V.ref a2] [Value.ref a1, Value.ref a2] := .cons rfl (.cons rfl .nil)
    have hsp : spD (XT X fl) ps.length m [V.ref a1, V.ref a2] H (fun v H' => ∃ b, v = .bl b ∧ Q (.bl b) H') (fun _ _ _ => False) := by
      refine ⟨ρ, st, [.ob c ds, .ob c' es], mt, .cons rd0 (.cons re0 .nil), hl.symm, ?_⟩
      have q' : Post (XT X fl) ρ st H [] (wx fun _ _ _ => False) (fun v ρ' st' H' => ∃ b, v = .bl b ∧ Q (.bl b) H') (m [.ob c ds, .ob c' es] st) := q
      refine q'.mono fun v ρ' st' H' ⟨b, e, q⟩ z rz => ?_
      subst e
      exact ⟨b, R.bl_of rz, q⟩
    refine wpAny_mono (run_fnG (X := X) (pins := pins) (σ := σ) (Q := fun v H' => ∃ b, v = .bl b ∧ Q (.bl b) H') F.fn hr F.bd (fun pins H s e s' I h => ?_) I r2 hsp) (fun w s' hq => ?_) fun _ _ z => z
    · obtain ⟨_, _, _, _, _, _, _, _, _, _, _, _, z⟩ := h
      exact z.elim
    · obtain ⟨v, H', I', rv, b, rfl, q⟩ := hq
      cases rv
      exact ⟨.bl b, H', I', rfl, q⟩
theorem de_own (ho : OpR X (compareOp op) r) (hop : compareOp op = richCompare op) (hv : V2 (XT X fl) r f) (hr : RoomG k X.A) (ok : OwnOk X fl op k tbl cs) (ha : DE X fl Wx a ma) (hb : DE X fl Wx b mb) (hm : behindInMarks op b = false) :
    DE X fl Wx (.Compare a [op] [b] pos) (e2M (fOwn tbl cs f) ma mb) := by
  refine pe_imp (pe_cmpR (op_own ho hop hr ok) ha hb hm) fun σ H Q ⟨ρ, δ, st, m, en, h⟩ => ?_
  refine ⟨ρ, δ, st, m, en, (Post.bind h).monoE fun d ρ1 st1 H1 e1 m1 h1 x rx => ?_⟩
  refine ⟨ρ1, δ, st1, m1, en.ext e1, (Post.bind h1).monoE fun e ρ2 st2 H2 e2 m2 h2 y ry => ?_⟩
  have rx2 := rx.ext e2 _ _
  have simple : Post (XT X fl) ρ2 st2 H2 σ Wx (fun v ρ' st' H' => ∀ x, R (XT X fl) ρ' st' H' v x → Q x H') (lift (f st2 d e) st2) → rOwn X fl r tbl cs x y H2 Q := fun h3 => by
    obtain ⟨v, ev, h4⟩ := Post.lift_inv h3
    exact .inl (hv ρ2 st2 H2 d e x y v Q m2 rx2 ry ev fun H' z e' m' rz => h4 ρ2 H' e' m' z rz)
  cases d with
  | ob c ds =>
    cases e with
    | ob c' es =>
      unfold fOwn at h2
      dsimp only at h2
      cases ht : tbl c with
      | none => rw [ht] at h2; exact False.elim h2
      | some mm =>
        rw [ht] at h2
        dsimp only at h2
        split at h2
        · rename_i hc
          refine .inr ⟨ρ2, st2, c, ds, c', es, mm, m2, rx2, ry, ht, hc, ?_⟩
          cases q : mm [.ob c ds, .ob c' es] st2 with
          | stuck => rw [q] at h2; exact False.elim h2
          | exc c3 d3 st3 => rw [q] at h2; exact False.elim h2
          | ok v st3 =>
            rw [q] at h2
            cases v with
            | bl b => exact fun ρ' H' e' m' => ⟨b, rfl, h2 ρ' H' e' m' _ R.bl⟩
            | _ => exact False.elim h2
        · exact False.elim h2
    | _ => exact False.elim h2
  | non => exact simple h2
  | bl _ => exact simple h2
  | int _ => exact simple h2
  | str _ => exact simple h2
  | tup _ => exact simple h2
  | lst _ => exact simple h2
  | cst _ => exact simple h2
  | ref _ => exact simple h2
  | clo _ _ => exact simple h2
  | scr _ => exact simple h2
theorem dt_own (ho : OpR X (compareOp op) r) (hop : compareOp op = richCompare op) (hv : V2 (XT X fl) r f) (hr : RoomG k X.A) (ok : OwnOk X fl op k tbl cs) (ha : DE X fl Wx a ma) (hb : DE X fl Wx b mb) (hm : behindInMarks op b = false) :
    DT X fl Wx (.Compare a [op] [b] pos) (tOf (e2M (fOwn tbl cs f) ma mb)) := by
  refine pt_imp (pt_cmpR (op_own ho hop hr ok) ha hb hm) fun σ H Q h => ?_
  have h' := go_bool h
  obtain ⟨ρ, δ, st, m, en, h⟩ := h'
  refine ⟨ρ, δ, st, m, en, (Post.bind h).monoE fun d ρ1 st1 H1 e1 m1 h1 x rx => ?_⟩
  refine ⟨ρ1, δ, st1, m1, en.ext e1, (Post.bind h1).monoE fun e ρ2 st2 H2 e2 m2 h2 y ry => ?_⟩
  have rx2 := rx.ext e2 _ _
  have simple : Post (XT X fl) ρ2 st2 H2 σ Wx (fun v ρ' st' H' => ∀ x, R (XT X fl) ρ' st' H' v x → ∃ k, x = .bl k ∧ Q k H') (lift (f st2 d e) st2) → rOwn X fl r tbl cs x y H2 (fun x H1 => ∃ k, x = .bl k ∧ Q k H1) := fun h3 => by
    obtain ⟨v, ev, h4⟩ := Post.lift_inv h3
    exact .inl (hv ρ2 st2 H2 d e x y v _ m2 rx2 ry ev fun H' z e' m' rz => h4 ρ2 H' e' m' z rz)
  cases d with
  | ob c ds =>
    cases e with
    | ob c' es =>
      unfold fOwn at h2
      dsimp only at h2
      cases ht : tbl c with
      | none => rw [ht] at h2; exact False.elim h2
      | some mm =>
        rw [ht] at h2
        dsimp only at h2
        split at h2
        · rename_i hc
          refine .inr ⟨ρ2, st2, c, ds, c', es, mm, m2, rx2, ry, ht, hc, ?_⟩
          cases q : mm [.ob c ds, .ob c' es] st2 with
          | stuck => rw [q] at h2; exact False.elim h2
          | exc c3 d3 st3 => rw [q] at h2; exact False.elim h2
          | ok v st3 =>
            rw [q] at h2
            cases v with
            | bl b => exact fun ρ' H' e' m' => ⟨b, rfl, h2 ρ' H' e' m' _ R.bl⟩
            | _ => exact False.elim h2
        · exact False.elim h2
    | _ => exact False.elim h2
  | non => exact simple h2
  | bl _ => exact simple h2
  | int _ => exact simple h2
  | str _ => exact simple h2
  | tup _ => exact simple h2
  | lst _ => exact simple h2
  | cst _ => exact simple h2
  | ref _ => exact simple h2
  | clo _ _ => exact simple h2
  | scr _ => exact simple h2
end

/-! ### targets, assignments -/
def gLstD (n : Nat) (g : GMs) : GM := fun d δ => match d with
  | .lst ds => if ds.length = n then g ds δ else none
  | _ => none
def sAsg (g : GM) (m : EM) : SM := fun δ => m δ >>= fun d st => match g d δ with
  | some δ' => .ok (.next, δ') st
  | none => .stuck
def setAll : DEnv → List Nat → List D → DEnv
  | δ, i :: is, d :: ds => setAll (δ.set i (some d)) is ds
  | δ, _, _ => δ
/-- a, b = x, y (two or three names), stored from the right -/
def sPar (is : List Nat) (a : AM) : SM := fun δ => a δ >>= fun ds => if ds.length = is.length then pure (.next, setAll δ is ds) else M.stuck
section
variable {X : Cx} {fl : Str → List Str} {Wx : WX} {E : XK} {vs : List Nat} {tg e a b c : Expr} {tgs : List Expr} {g : GM} {gs : GMs} {m : EM} {mA : AM} {pos : Pos}
theorem dg_lst {k n : Nat} (hc : X.calm = true) (h : DGs X fl vs tgs gs) (hn : (assignEach tgs X.env).length = n := by rfl) (hst : (assignEach tgs X.env).findIdx? (·.1) = none := by rfl) : DG X fl vs (.Tuple tgs k pos) (gLstD n gs) := by
  refine pg_imp (pg_unl (n := n) hc h hn hst) fun v σ H Q ⟨ρ, δ, st, d, δ', m, en, r, hg, h⟩ => ?_
  cases d with
  | lst ds =>
    obtain ⟨a, xs, e, q, rxs⟩ := r.lst_of
    simp only [gLstD] at hg
    by_cases hl : ds.length = n
    · rw [if_pos hl] at hg
      exact ⟨a, xs, e, SqL.of q, by rw [← rxs.length]; exact hl, ρ, δ, st, ds, δ', m, en, rxs, hg, h⟩
    · rw [if_neg hl] at hg
      cases hg
  | _ => cases hg
theorem ds_asg (he : DE X fl (wx E) e m) (hg : DG X fl vs tg g) (hs : swapsWithSole [tg] e pos.line X.env = pure false := by rfl) (hw : swappedStores [tg] e X.env = pure none := by rfl)
    (h1 : (assignEach [tg] X.env).map (·.2) = [assign tg X.env] := by rfl) : DS X fl E (.Assign [tg] e pos) (sAsg g m) := by
  refine ps_imp (ps_asg he hg hs hw h1) fun D σ H ⟨ρ, δ, st, mt, en, h⟩ => ?_
  refine ⟨ρ, δ, st, mt, en, (Post.bind h).monoE fun d ρ1 st1 H1 e1 m1 h1 x rx => ?_⟩
  cases q : g d δ with
  | none => rw [q] at h1; exact False.elim h1
  | some δ' =>
    rw [q] at h1
    exact ⟨ρ1, δ, st1, d, δ', m1, en.ext e1, rx, q, fun σ' _ en' => h1 ρ1 H1 .refl m1 σ' en'⟩
theorem ds_par {i j : Nat} {x y : Str} {px py pt : Pos} {kt k2 pt2} (hc : X.calm = true) (hN : X.N.Nodup) (hi : X.N[i]? = some x) (hj : X.N[j]? = some y) (hij : i ≠ j)
    (hx : X.env.scope.names.lookup x = some .local) (hy : X.env.scope.names.lookup y = some .local) (ha : DA X fl (wx E) [a, b] mA)
    (hw : swappedStores [.Tuple [.Name x px, .Name y py] kt pt] (.Tuple [a, b] k2 pt2) X.env = pure (some [x, y]))
    (hs : swapsWithSole [.Tuple [.Name x px, .Name y py] kt pt] (.Tuple [a, b] k2 pt2) pos.line X.env = pure false := by rfl) :
    DS X fl E (.Assign [.Tuple [.Name x px, .Name y py] kt pt] (.Tuple [a, b] k2 pt2) pos) (sPar [i, j] mA) := by
  refine ps_imp (ps_par hc hN hi hj hij hx hy ha hw hs) fun D σ H ⟨ρ, δ, st, m, en, h⟩ => ?_
  refine ⟨ρ, δ, st, m, en, (Post.bind h).monoE fun ds ρ1 st1 H1 e1 m1 h1 xs rxs => ?_⟩
  match ds, h1, rxs with
  | [d1, d2], h1, rxs =>
    simp only [RAll] at rxs
    obtain ⟨x1, _, rfl, r1, x2, _, rfl, r2, rfl⟩ := rxs
    exact ⟨x1, x2, rfl, h1 ρ1 H1 .refl m1 _ (((en.ext e1).set i r1).set j r2)⟩
  | [], h1, _ => exact False.elim h1
  | [_], h1, _ => exact False.elim h1
  | _ :: _ :: _ :: _, h1, _ =>
    rw [if_neg (by simp)] at h1
    exact False.elim h1
theorem ds_par3 {i j l : Nat} {x y z : Str} {px py pz pt : Pos} {kt k2 pt2} (hc : X.calm = true) (hN : X.N.Nodup) (hi : X.N[i]? = some x) (hj : X.N[j]? = some y) (hl : X.N[l]? = some z) (hij : i ≠ j) (hil : i ≠ l) (hjl : j ≠ l)
    (hx : X.env.scope.names.lookup x = some .local) (hy : X.env.scope.names.lookup y = some .local) (hz : X.env.scope.names.lookup z = some .local) (ha : DA X fl (wx E) [a, b, c] mA)
    (hw : swappedStores [.Tuple [.Name x px, .Name y py, .Name z pz] kt pt] (.Tuple [a, b, c] k2 pt2) X.env = pure (some [x, y, z]))
    (hs : swapsWithSole [.Tuple [.Name x px, .Name y py, .Name z pz] kt pt] (.Tuple [a, b, c] k2 pt2) pos.line X.env = pure false := by rfl) :
    DS X fl E (.Assign [.Tuple [.Name x px, .Name y py, .Name z pz] kt pt] (.Tuple [a, b, c] k2 pt2) pos) (sPar [i, j, l] mA) := by
  refine ps_imp (ps_par3 hc hN hi hj hl hij hil hjl hx hy hz ha hw hs) fun D σ H ⟨ρ, δ, st, m, en, h⟩ => ?_
  refine ⟨ρ, δ, st, m, en, (Post.bind h).monoE fun ds ρ1 st1 H1 e1 m1 h1 xs rxs => ?_⟩
  match ds, h1, rxs with
  | [d1, d2, d3], h1, rxs =>
    simp only [RAll] at rxs
    obtain ⟨x1, _, rfl, r1, x2, _, rfl, r2, x3, _, rfl, r3, rfl⟩ := rxs
    exact ⟨x1, x2, x3, rfl, h1 ρ1 H1 .refl m1 _ ((((en.ext e1).set i r1).set j r2).set l r3)⟩
  | [], h1, _ => exact False.elim h1
  | [_], h1, _ => exact False.elim h1
  | [_, _], h1, _ => exact False.elim h1
  | _ :: _ :: _ :: _ :: _, h1, _ =>
    rw [if_neg (by simp)] at h1
    exact False.elim h1
/-- name = [.. for ..] -/
theorem ds_setLc {i : Nat} {y : Str} {py spos : Pos} {iter elt : Expr} {ifs : List Expr} {scope : Scope} {own : List (Str × Nat)} {mi : IM} {mt : TM} {me : EM} (hc : X.calm = true) (hN : X.N.Nodup) (hy : X.N[i]? = some y) (hyl : X.env.scope.names.lookup y = some .local)
    (hsw : swapsWith (.ListComp elt [⟨tg, iter, ifs, 0⟩] scope pos) (some (.Name y py)) spos.line X.env = pure true) (hi : DI X fl (wx E) tg iter mi) (ok : BlkOk X.N X.env.scope scope own) (hv : own.map (·.2) = vs)
    (hg : ∀ (s : Shared) (H : Hp) (C : Addr) (cl : List (Str × Addr)) (fp : List Addr), DG (X.blk s H scope (compEnvC scope cl C X.env) fp) fl vs tg g) (ht : ∀ (s : Shared) (H : Hp) (C : Addr) (cl : List (Str × Addr)) (fp : List Addr), DTs (X.blk s H scope (compEnvC scope cl C X.env) fp) fl WF ifs mt)
    (he : ∀ (s : Shared) (H : Hp) (C : Addr) (cl : List (Str × Addr)) (fp : List Addr), DE (X.blk s H scope (compEnvC scope cl C X.env) fp) fl WF elt me) (hs : ∀ x, foldedSetIterable iter X.env x = pure x := by intro _; rfl) :
    DS X fl E (.Assign [.Name y py] (.ListComp elt [⟨tg, iter, ifs, 0⟩] scope pos) spos) (sSet i (eComp vs mi g mt me)) := by
  subst hv
  refine ps_imp (ps_setLc (g := tDG (XT X fl) (own.map (·.2)) g) (tt := tDT (XT X fl) WF mt) (te := tD (XT X fl) WF me) hc hN hy hyl hsw hi ok hg ht he hs) fun D σ H ⟨ρ, δ, st, m, en, h⟩ => ?_
  refine go_lc (Wx := wx E) (P := fun ds ρ1 st1 H1 => ∀ x, R (XT X fl) ρ1 st1 H1 (.lst ds) x → D.nx (σ.set i (some x)) H1) (fun ds ρ1 st1 H1 L accV hp hD nl _ m1 r => hp _ ?_) ⟨ρ, δ, st, m, en, ?_⟩
  · simp only [R]
    exact ⟨L, accV, rfl, hD, nl, r⟩
  · exact (Post.bind (Post.bind h)).monoE fun ds ρ1 st1 H1 e1 m1 h1 x rx => (h1 ρ1 H1 .refl m1) ρ1 H1 .refl m1 _ ((en.ext e1).set i rx)
end
end DL
/-! DL11: the end of a law. -/
namespace DL
open PySem PySem.Spec PyProof.Rows L2

/-- the law's def, as the script comes from outside: told from its reading alone -/
theorem enterG {P : Program} {w : World} {K : PySem.W.Frag} {mg mb : Str → Option Value} {fl : Str → List Str} {k : Nat} {fa a : Addr} {fd : FuncData} {x : Str} {m : List D → M D} {s₁ : Shared} {vs : List Value} {ns : List Int}
    (KX : K.In s₁.heap) (hns : s₁.heap.Ns mainGlobals mg) (hb : s₁.heap.Ns builtinsNs mb) (hbb : ∀ x : Str, x ≠ "__name__" → mb x = bootBuiltins x) (hlim : s₁.heap.NoLimit) (hsm : ∃ mm, s₁.heap.Ns sysModules mm) (hg : s₁.gens = #[])
    (ha : s₁.heap.get? a = some { cls := .type "list", data := .seq vs.toArray }) (hi : IntsAre vs ns) (hl : ns.length ≤ sizeLine) (hr : RoomG k callerA)
    (F : ∀ base : Heap, K.In base → base.Ns mainGlobals mg → SysB base → FnG P w K mg base k fa fd [x] (spD ⟨K, mg, fl⟩ 1 m)) (hbind : ∀ (s : Shared) (u : Value), BindsTo s fd ⟨[u], []⟩ [(x, u)])
    (hm : ∃ st', m [.scr ns] [] = .ok (.bl true) st') :
    codeAny (model P w) callerA (.call (.ref fa) ⟨[.ref a], []⟩) (fun r s' => r = .ok (.ret (.bool true)) ∧ OldK s₁.heap s'.heap ∧ s'.os = s₁.os ∧ AllBare s'.gens) s₁ := by
  classical
  have rv := vals_ints hi
  have lenV := hi.length
  -- tracked: the script, if it is not of the written part
  obtain ⟨H, hH⟩ : ∃ H : Hp, H = fun b => if b = a ∧ K.lookup a = none then some (.frz { cls := .type "list", data := .seq vs.toArray } (.lst (ns.map V.int))) else none := ⟨_, rfl⟩
  have hat : ∀ b u, H b = some u → b = a ∧ K.lookup a = none ∧ u = .frz { cls := .type "list", data := .seq vs.toArray } (.lst (ns.map V.int)) := fun b u q => by
    rw [hH] at q
    dsimp only at q
    split at q
    · rename_i hc
      exact ⟨hc.1, hc.2, (Option.some.inj q).symm⟩
    · cases q
  have hok : HOk P w H s₁.heap := fun b u q => by
    obtain ⟨rfl, _, rfl⟩ := hat b u q
    exact ⟨ha, by rw [List.length_map]; exact hl, vs, _, rv, ha⟩
  have plainB : ∀ {b : Addr} {o : Obj}, s₁.heap.get? b = some o → (∀ its n, o.data ≠ .seq its n) → H b = none := fun {b o} e hd => by
    cases q : H b with
    | none => rfl
    | some u =>
      obtain ⟨rfl, _, _⟩ := hat b u q
      rw [ha] at e
      cases e
      exact absurd rfl (hd _ _)
  have nsB : ∀ {b : Addr} {mm : Str → Option Value}, s₁.heap.Ns b mm → (hidT s₁.heap H).Ns b mm := fun {b mm} ⟨o, es, ep, e, d, r⟩ => ⟨o, es, ep, hidT_get e (plainB e fun its n z => by rw [d] at z; cases z), d, r⟩
  have kB : K.In (hidT s₁.heap H) := fun b o e => hidT_get (KX b o e) (by
    cases q : H b with
    | none => rfl
    | some u =>
      obtain ⟨rfl, hk, _⟩ := hat b u q
      rw [hk] at e
      cases e)
  have sB : SysB (hidT s₁.heap H) := let ⟨mm, h⟩ := hsm; let ⟨o, _, _, e, _⟩ := nsB h; ⟨o, e⟩
  have M0 : L2.Mod K mg (hidT s₁.heap H) := ⟨kB, nsB hns, ⟨mb, nsB hb, hbb⟩, let ⟨mc, h1, h2⟩ := hlim; ⟨mc, nsB h1, h2⟩⟩
  have e0 : Env0 P w K mg (hidT s₁.heap H) callerA [] s₁ H := ⟨rfl, M0, fun b o e => of_hidT e, Nat.le_of_eq (hidT_size _ _), trivial, fun b hb => absurd (show b ∈ ([] : List Addr) from hb) (by simp), hok, .of_eq hg⟩
  obtain ⟨st', hm⟩ := hm
  have hsp : spD ⟨K, mg, fl⟩ 1 m [.ref a] H (fun v _ => v = .bl true) (fun _ _ _ => False) := by
    refine ⟨⟨[], fun _ => False⟩, [], [.scr ns], ⟨rfl, List.nodup_nil, fun _ z => absurd z (by simp), fun _ z => z.elim, fun _ z => z.elim, fun i b o z => by simp at z⟩, .cons ?_ .nil, rfl, ?_⟩
    · simp only [R]
      refine ⟨a, rfl, ?_⟩
      cases hk : K.lookup a with
      | some o =>
        have e := KX a o hk
        rw [ha] at e
        cases e
        exact .inr fun H' => .inr ⟨_, vs.toArray, _, hk, rfl, rfl, rfl, by rw [List.size_toArray, lenV]; exact hl, by simpa using rv⟩
      | none =>
        refine .inl ⟨{ cls := .type "list", data := .seq vs.toArray }, by rw [hH]; exact if_pos ⟨rfl, hk⟩, fun z => ?_⟩
        rcases z with ⟨i, o, z, _⟩ | z
        · simp at z
        · exact z
    · rw [hm]
      exact fun ρ' H' _ _ y ry => R.bl_of ry
  refine codeAny_mono ((F _ kB (nsB hns) sB).run callerA [] s₁ H ⟨[.ref a], []⟩ [.ref a] [.ref a] _ _ hr e0 (hbind s₁ (.ref a)) (.cons rfl .nil) hsp) fun r s' h => ?_
  cases r with
  | error e =>
    obtain ⟨_, _, _, _, _, _, _, _, _, _, _, _, z⟩ := (show L2.CX P w [] H s₁ (fun _ _ _ => False) e s' from h)
    exact z.elim
  | ok fl =>
    cases fl with
    | next => exact False.elim h
    | brk => exact False.elim h
    | cont => exact False.elim h
    | ret u =>
      obtain ⟨v, H', os, bare, un, hok', r', q⟩ := h
      have q' : v = .bl true := q
      subst q'
      obtain rfl : u = Value.bool true := r'
      refine ⟨rfl, OldK.of_keep fun b o e => ?_, os, bare⟩
      cases q : H b with
      | none => exact un.keep b o e q (by intro z; exact absurd (show b ∈ ([] : List Addr) from z) (by simp)) (by simp)
      | some u =>
        obtain ⟨rfl, _, rfl⟩ := hat b u q
        obtain ⟨e2, _⟩ := hok' b _ (un.frzs b _ _ q)
        rw [ha] at e
        cases e
        exact e2
/-- what the head leaves, from the reading of the law's def -/
theorem walkG {l : PySem.W.OpenLaw} {n k : Nat} {q : Program} {loose : List Str} {XP : (Str → Option Value) → Heap → Prop} {YP : World → Heap → Prop} {d : DefRec} {K : Params → PySem.W.Frag} {fl : Str → List Str} {x : Str} {m : List D → M D}
    (hn : l.most = some n) (hn2 : n ≤ sizeLine) (hdf : d.params.defaults = []) (hr : RoomG k callerA) (hq : importsNone q = true)
    (hY : ∀ (w : World) (h : Heap), YP w h → (K w.params).In h)
    (F : ∀ (w : World) (mg : Str → Option Value) (fa : Addr) (h : Heap), (K w.params).In h → h.Ns mainGlobals mg → mg d.name = some (.ref fa) →
      ∃ fd : FuncData, (∀ (s : Shared) (u : Value), BindsTo s fd ⟨[u], []⟩ [(x, u)]) ∧
        ∀ base : Heap, (K w.params).In base → base.Ns mainGlobals mg → SysB base → FnG l.prog w (K w.params) mg base k fa fd [x] (spD ⟨K w.params, mg, fl⟩ 1 m))
    (hm : ∀ ns : List Int, ns.length ≤ n → ∃ st', m [.scr ns] [] = .ok (.bl true) st') :
    PySem.W.WalkO q loose XP YP l.row.toRowW d [] (fun f vs => PySem.call f vs) := by
  refine Att.attach_call hn hdf fun w s₀ s₁ mg mb fa o pm cd doc a vs ns G Y ho hd hcd hmg hobj hints hlen hg => ?_
  have KX := hY w _ Y
  obtain ⟨fd, hb, hF⟩ := F w mg fa _ KX G.T.g hmg
  have hsm : ∃ mm, s₁.heap.Ns sysModules mm := let ⟨mm, h, _⟩ := (G.T.seer hq).mods; ⟨mm, h⟩
  exact enterG KX G.T.g G.T.b G.T.builtins G.T.nolimit hsm hg hobj hints (Nat.le_trans hlen hn2) hr hF hb (hm ns hlen)
end DL
/-! DL12: the pen. -/
namespace DL
open PySem PySem.Spec PyProof.Rows L2
theorem bb_len : bootBuiltins "len" = some (.builtin "len") := by first | rfl | decide +kernel
theorem bb_repr : bootBuiltins "repr" = some (.builtin "repr") := by first | rfl | decide +kernel
theorem bb_isinstance : bootBuiltins "isinstance" = some (.builtin "isinstance") := by first | rfl | decide +kernel
theorem bb_int : bootBuiltins "int" = some (.type "int") := by first | rfl | decide +kernel
theorem bb_tuple : bootBuiltins "tuple" = some (.type "tuple") := by first | rfl | decide +kernel
theorem bb_list : bootBuiltins "list" = some (.type "list") := by first | rfl | decide +kernel
theorem bb_range : bootBuiltins "range" = some (.type "range") := by first | rfl | decide +kernel
section
variable {X : Cx} {fl : Str → List Str} {Wx : WX} {e : Expr} {es : List Expr} {mA : AM} {p pos : Pos}
theorem de_listN (hg : Gl X "list") (hm : X.mg "list" = none) (hvb : bootBuiltins "list" = some (.type "list")) (ha : DA X fl Wx (e :: es) mA)
    (he : starEach (e :: es) X.env = (false, eval e X.env) :: starEach es X.env := by rfl) (hpl : (backTo pos (starEach es X.env)).any (·.1) = false := by rfl) :
    DE X fl Wx (.Call (.Name "list" p) (e :: es) [] pos) (eListN mA) :=
  pe_imp (pe_callTy call_list_of hg hm hvb ha (by decide) (by decide) he hpl) fun _ _ _ h => go_listN h
end
theorem Md.mono {P : Program} {w : World} {K : PySem.W.Frag} {mg : Str → Option Value} {base : Heap} {fl : Str → List Str} {j k : Nat} {f : Addr} {fd : FuncData} {ps : List Str} {m : List D → M D} (F : Md P w K mg base fl j f fd ps m) (h : j ≤ k) : Md P w K mg base fl k f fd ps m := ⟨F.fn.mono h, F.bd⟩
noncomputable def m__law_pen : List D → M D := fn 3
 (sSeq (sSet 1 (eC (.int 0)))
 (sSeq (sFor (itScr (eVar 0)) (gSet 2)
 (sSet 1 (e2 fMod (eN fInt (aCons (e2 fPlus (e2 fMul (eVar 1) (eC (.int 167))) (eVar 2)) aNil)) (eC (.int 999999323)))))
 (sRet (eDisp [("cells", (eN fListS (aCons (eVar 0) aNil))), ("at", (eC (.int 0))), ("digits", (eC (.int 0))), ("count", (eC (.int 0))), ("fold", (eVar 1))]))))
noncomputable def m__law_draw : List D → M D := fn 5
 (sSeq (sDput (eVar 0) (eC (.str "count")) (e2 fPlus (e2 fDget (eVar 0) (eC (.str "count"))) (eC (.int 1))))
 (sSeq (sIf (tAndM (tOf (e2 fEqD (e2 fDget (eVar 0) (eC (.str "digits"))) (eC (.int 0)))) (tOf (e2 (fCmp fun i j => decide (i < j)) (e2 fDget (eVar 0) (eC (.str "at"))) (eN fLen (aCons (e2 fDget (eVar 0) (eC (.str "cells"))) aNil)))))
 (sSeq (sSet 2 (e2 fItem (e2 fDget (eVar 0) (eC (.str "cells"))) (e2 fDget (eVar 0) (eC (.str "at")))))
 (sSeq (sDput (eVar 0) (eC (.str "at")) (e2 fPlus (e2 fDget (eVar 0) (eC (.str "at"))) (eC (.int 1))))
 (sIf (tOf (e2 (fCmp fun i j => decide (j ≤ i)) (eVar 2) (e2 fPow (eC (.int 10)) (eC (.int 18)))))
 (sDput (eVar 0) (eC (.str "digits")) (e2 fSub (eVar 2) (e2 fPow (eC (.int 10)) (eC (.int 18)))))
 (sDput (eVar 0) (eC (.str "fold")) (e2 fMod (eN fInt (aCons (e2 fPlus (e2 fMul (e2 fDget (eVar 0) (eC (.str "fold"))) (eC (.int 25301))) (eVar 2)) aNil)) (eC (.int 2147483077)))))))
 sNil)
 (sSeq (sIf (tOf (e2 (fCmp fun i j => decide (j < i)) (e2 fDget (eVar 0) (eC (.str "digits"))) (eC (.int 0))))
 (sSeq (sSet 3 (e2 fMod (eN fInt (aCons (e2 fDget (eVar 0) (eC (.str "digits"))) aNil)) (eVar 1)))
 (sSeq (sDput (eVar 0) (eC (.str "digits")) (e2 fFdiv (e2 fDget (eVar 0) (eC (.str "digits"))) (eVar 1)))
 (sRet (eVar 3))))
 sNil)
 (sSeq (sSet 4 (e2 fPlus (e2 fPlus (e2 fDget (eVar 0) (eC (.str "fold"))) (e2 fMul (e2 fDget (eVar 0) (eC (.str "count"))) (eC (.int 5237)))) (eC (.int 157))))
 (sRet (e2 fMod (e2 fFdiv (eN fInt (aCons (e2 fMod (e2 fPow (eVar 4) (eC (.int 61))) (eC (.int 2305843009213693951))) aNil)) (eC (.int 128))) (eVar 1)))))))
noncomputable def m__law_pick : List D → M D := fn 2
 (sRet (e2 fItem (eVar 1) (eCall 2 m__law_draw (aCons (eVar 0) (aCons (eN fLen (aCons (eVar 1) aNil)) aNil)))))
end DL
/-! DL13: what is told of classes. -/
namespace DL
open PySem PySem.Spec PyProof.Rows L2
section
variable {K : PySem.W.Frag} {mg : Str → Option Value} {cs : List Str} {f c0 : Str} {C0 : Addr}
theorem ref_eq {o : Option Value} {C D : Addr} (h : o = some (.ref C)) (h' : o = some (.ref D)) : C = D := by
  have := h.symm.trans h'
  simpa using this
theorem fldOk_by (h : ∀ c ∈ cs, ∃ C, mg c = some (.ref C) ∧ Cls K C ∧ NoAttr K C f) : FldOkR K mg cs f := fun c hc C hC => by
  obtain ⟨D, h1, h2⟩ := h c hc
  obtain rfl := ref_eq hC h1
  exact h2
theorem kit_eq {C : Addr} : PySem.W.kitOne K (.ref C) (.ref C) = some true := by
  unfold PySem.W.kitOne
  rw [if_pos (by simp)]
theorem kit_ne {C D : Addr} (ne : D ≠ C) (ic : PySem.W.isClsIn K C = true) (ty : PySem.W.typeIn K (.ref C) = some (.type "type")) (su : PySem.W.subIn K (.ref D) (.ref C) = some false) : PySem.W.kitOne K (.ref D) (.ref C) = some false := by
  unfold PySem.W.kitOne
  rw [if_neg (by simpa using ne)]
  unfold PySem.W.kitCls
  have ic' : (PySem.W.clsIn K C).isSome = true := ic
  simp only [ic', ty]
  exact su
def isiTbl (cs : List Str) (c0 : Str) : Kd → Option Bool
  | .own c => if c ∈ cs then some (decide (c = c0)) else none
  | _ => none
theorem isiTbl_ok (h : ∀ c ∈ cs, ∃ C, mg c = some (.ref C) ∧ OwnC K C ∧ PySem.W.kitOne K (.ref C) (.ref C0) = some (decide (c = c0))) : IsiOk K mg (.ref C0) (isiTbl cs c0) := by
  refine ⟨fun c C b hb hC => ?_, fun k t b hb ht => ?_⟩
  · simp only [isiTbl] at hb
    split at hb
    · rename_i hc
      obtain ⟨D, h1, h2, _⟩ := h c hc
      obtain rfl := ref_eq hC h1
      exact h2
    · cases hb
  · cases k with
    | ty n => cases hb
    | own c =>
      simp only [isiTbl] at hb
      split at hb
      · rename_i hc
        cases hb
        obtain ⟨D, h1, _, h3⟩ := h c hc
        obtain ⟨C, hC, rfl⟩ := ht
        obtain rfl := ref_eq hC h1
        exact h3
      · cases hb
/-- a built-in class n; m: those that are of it -/
def isiTy (n : String) (sub : List String) : Kd → Option Bool
  | .ty t => if t = n then some true else if t ∈ ["NoneType", "bool", "int", "str", "tuple", "list", "dict"] then some (decide (t ∈ sub)) else none
  | _ => none
theorem isiTy_ok {n : String} {sub : List String} (h : ∀ t ∈ ["NoneType", "bool", "int", "str", "tuple", "list", "dict"], t ≠ n → PySem.W.kitOne K (.type t) (.type n) = some (decide (t ∈ sub))) : IsiOk K mg (.type n) (isiTy n sub) := by
  refine ⟨fun c C b hb hC => (by cases hb), fun k t b hb ht => ?_⟩
  cases k with
  | own c => cases hb
  | ty m =>
    obtain rfl : t = .type m := ht
    simp only [isiTy] at hb
    split at hb
    · rename_i e
      subst e
      cases hb
      show (if (Value.type m == Value.type m) = true then some true else _) = some true
      rw [if_pos (by simp)]
    · rename_i e
      split at hb
      · rename_i hm
        cases hb
        exact h m hm e
      · cases hb
theorem isi_list_ok : IsiOk K mg (.type "list") (isiTy "list" []) := isiTy_ok (by
  intro t ht
  simp only [List.mem_cons, List.not_mem_nil, or_false] at ht
  rcases ht with rfl | rfl | rfl | rfl | rfl | rfl | rfl <;> intro h <;> first | exact absurd rfl h | rfl)
theorem isi_tuple_ok : IsiOk K mg (.type "tuple") (isiTy "tuple" []) := isiTy_ok (by
  intro t ht
  simp only [List.mem_cons, List.not_mem_nil, or_false] at ht
  rcases ht with rfl | rfl | rfl | rfl | rfl | rfl | rfl <;> intro h <;> first | exact absurd rfl h | rfl)
theorem isi_int_ok : IsiOk K mg (.type "int") (isiTy "int" ["bool"]) := isiTy_ok (by
  intro t ht
  simp only [List.mem_cons, List.not_mem_nil, or_false] at ht
  rcases ht with rfl | rfl | rfl | rfl | rfl | rfl | rfl <;> intro h <;> first | exact absurd rfl h | rfl)
theorem isi_bool_ok : IsiOk K mg (.type "bool") (isiTy "bool" []) := isiTy_ok (by
  intro t ht
  simp only [List.mem_cons, List.not_mem_nil, or_false] at ht
  rcases ht with rfl | rfl | rfl | rfl | rfl | rfl | rfl <;> intro h <;> first | exact absurd rfl h | rfl)
variable {P : Program} {w : World} {base : Heap} {fl : Str → List Str} {op : CmpOp} {k : Nat} {tbl : Str → Option (List D → M D)}
theorem ownOk_by (h : ∀ c m, tbl c = some m → ∃ C f fd ps j, mg c = some (.ref C) ∧ PySem.W.findIn K (.ref C) (cmpInfo op).2.1 = some (some (.ref f)) ∧ PySem.W.isFn K (.ref f) = true ∧ ps.length = 2 ∧ Md P w K mg base fl j f fd ps m ∧ j ≤ k ∧
    ∀ c' ∈ cs, ∃ C', mg c' = some (.ref C') ∧ PySem.W.notFirst K C (.ref C') = true) : OwnOkR P w K mg base fl op k tbl cs := fun c m hm => by
  obtain ⟨C, f, fd, ps, j, h1, h2, h3, h4, h5, h6, h7⟩ := h c m hm
  refine ⟨C, f, fd, ps, h1, h2, h3, h4, h5.mono h6, fun c' hc' C' hC' => ?_⟩
  obtain ⟨D, h8, h9⟩ := h7 c' hc'
  obtain rfl := ref_eq hC' h8
  exact h9
end
end DL
/-! DL14: what is shown fits. -/
namespace DL
open PySem PySem.Spec PyProof.Rows L2
mutual
def wt : PyData → Nat
  | .none => 8
  | .bool _ => 8
  | .int i => i.natAbs.log2 + 3
  | .str x => 10 * x.length + 2
  | .list xs => wtAll xs + 4
  | .tuple xs => wtAll xs + 4
  | .dict kvs => wtKv kvs + 4
def wtAll : List PyData → Nat
  | [] => 0
  | x :: xs => wt x + 2 + wtAll xs
def wtKv : List (PyData × PyData) → Nat
  | [] => 0
  | (k, v) :: r => wt k + wt v + 4 + wtKv r
end
mutual
/-- texts have signs that repr can show -/
def chOk : PyData → Bool
  | .none => true
  | .bool _ => true
  | .int _ => true
  | .str x => x.cps.all fun c => decide (c < 16 ^ 8)
  | .list xs => chAll xs
  | .tuple xs => chAll xs
  | .dict kvs => chKv kvs
def chAll : List PyData → Bool
  | [] => true
  | x :: xs => chOk x && chAll xs
def chKv : List (PyData × PyData) → Bool
  | [] => true
  | (k, v) :: r => chOk k && chOk v && chKv r
end
theorem piled_cons (t : Str) (ts : List Str) : piled (t :: ts) = t.length + 2 + piled ts := by
  unfold piled
  simp
theorem len1 (x : String) (n : Nat) (h : (Str.ofString x).length = n) : (x : Str).length = n := h
theorem join_le (ts : List Str) : (Str.join ", " ts).length ≤ piled ts := by
  cases ts with
  | nil => decide
  | cons t ts =>
    have := join_length_add (t :: ts) (by simp)
    omega
theorem listText_le (ts : List Str) : (listText ts).length ≤ piled ts + 4 := by
  unfold listText
  rw [Str.length_append]
  have e2 : (Str.ofString "]").length = 1 := by decide
  cases ts with
  | nil =>
    have e1 : (textFrom 0 "[" []).length = 1 := by decide
    have e1' : (textFrom 0 (Str.ofString "[") []).length = 1 := e1
    have e3 : ((("]" : String) : Str)).length = 1 := e2
    omega
  | cons t ts =>
    have h : textFrom 0 "[" (t :: ts) = textFrom 1 ((Str.ofString "[" ++ Str.ofString "") ++ t) ts := rfl
    rw [h, textFrom_length_pos _ _ _ (by omega), Str.length_append, Str.length_append, piled_cons]
    have e1 : (Str.ofString "[").length = 1 := by decide
    have e0 : (Str.ofString "").length = 0 := by decide
    have e3 : ((("]" : String) : Str)).length = 1 := e2
    omega
theorem tupleText_le (ts : List Str) : (tupleText ts).length ≤ piled ts + 4 := by
  unfold tupleText
  rw [Str.length_append, Str.length_append]
  have := join_le ts
  have e1 : (Str.ofString "(").length = 1 := by decide
  have e1' : (("(" : String) : Str).length = 1 := e1
  have e2 : (Str.ofString ",)").length = 2 := by decide
  have e3 : (Str.ofString ")").length = 1 := by decide
  split
  · have : (Str.ofString ",)").length = 2 := e2
    omega
  · have : (Str.ofString ")").length = 1 := e3
    omega
theorem dictText_le (ts : List Str) : (dictText ts).length ≤ piled ts + 4 := by
  unfold dictText
  rw [Str.length_append, Str.length_append]
  have := join_le ts
  have e1 : (Str.ofString "{").length = 1 := by decide
  have e1' : (("{" : String) : Str).length = 1 := e1
  have e2 : (Str.ofString "}").length = 1 := by decide
  have e2' : (("}" : String) : Str).length = 1 := e2
  omega
mutual
theorem shown_le : ∀ d : PyData, chOk d = true → d.shown.length ≤ wt d
  | .none, _ => by
    show (Str.ofString "None").length ≤ 8
    decide
  | .bool b, _ => by
    cases b
    · show (Str.ofString "False").length ≤ 8
      decide
    · show (Str.ofString "True").length ≤ 8
      decide
  | .int i, _ => by
    simp only [PyData.shown, wt]
    have h := int_text_length_le (a := i) (k := i.natAbs.log2 + 1) (by omega) (by omega)
    have e : (Str.ofString (toString i)).length = (toString i).length := PySem.ofString_length _
    show (Str.ofString (toString i)).length ≤ _
    omega
  | .str x, h => by
    simp only [PyData.shown, wt]
    refine StrLaws.reprText_len x fun c hc => ?_
    simp only [chOk] at h
    have := Array.all_eq_true_iff_forall_mem.mp h c (by simpa using hc)
    simpa using this
  | .list xs, h => by
    simp only [PyData.shown, wt]
    have := shownAll_le xs (by simpa [chOk] using h)
    have := listText_le (PyData.shownAll xs)
    omega
  | .tuple xs, h => by
    simp only [PyData.shown, wt]
    have := shownAll_le xs (by simpa [chOk] using h)
    have := tupleText_le (PyData.shownAll xs)
    omega
  | .dict kvs, h => by
    simp only [PyData.shown, wt]
    have := shownKv_le kvs (by simpa [chOk] using h)
    have := dictText_le (PyData.shownKv kvs)
    omega
theorem shownAll_le : ∀ xs : List PyData, chAll xs = true → piled (PyData.shownAll xs) ≤ wtAll xs
  | [], _ => by simp [PyData.shownAll, wtAll, piled]
  | x :: xs, h => by
    simp only [chAll, Bool.and_eq_true] at h
    simp only [PyData.shownAll, wtAll, piled_cons]
    have := shown_le x h.1
    have := shownAll_le xs h.2
    omega
theorem shownKv_le : ∀ xs : List (PyData × PyData), chKv xs = true → piled (PyData.shownKv xs) ≤ wtKv xs
  | [], _ => by simp [PyData.shownKv, wtKv, piled]
  | (k, v) :: xs, h => by
    simp only [chKv, Bool.and_eq_true] at h
    simp only [PyData.shownKv, wtKv, piled_cons]
    have := shown_le k h.1.1
    have := shown_le v h.1.2
    have := shownKv_le xs h.2
    rw [Str.length_append, Str.length_append]
    have e1 : (Str.ofString ": ").length = 2 := by decide
    have e1' : ((": " : String) : Str).length = 2 := e1
    omega
end
/-- it can be shown -/
def Shows (p : PyData) (n w : Nat) : Prop := p.showable = true ∧ chOk p = true ∧ wt p ≤ w ∧ p.depth ≤ n
theorem repr_some {st : Store} {d : D} {p : PyData} (h : toPy st 60 d = some p) (s : Shows p 60 sizeLine) : fRepr st [d] = some (.str p.shown) := by
  obtain ⟨h1, h2, h3, h4⟩ := s
  unfold fRepr
  simp only [h]
  rw [if_pos ⟨h1, Nat.le_trans (shown_le p h2) h3, h4⟩]
end DL
/-! DL15: the pen's numbers. -/
namespace DL
open PySem PySem.Spec PyProof.Rows L2
structure Pen where
  cells : List Int
  at_ : Int
  digits : Int
  count : Int
  fold : Int
def Pen.kv (p : Pen) : List (Key × D) := [(.inr "cells", .lst (p.cells.map D.int)), (.inr "at", .int p.at_), (.inr "digits", .int p.digits), (.inr "count", .int p.count), (.inr "fold", .int p.fold)]
def Pen.so (p : Pen) : SO := .dk p.kv
structure PenOk (c : Int) (p : Pen) : Prop where
  len : p.cells.length ≤ 1000
  at0 : 0 ≤ p.at_
  dig : 0 ≤ p.digits
  cnt : 0 ≤ p.count
  cntc : p.count ≤ c
  fold0 : 0 ≤ p.fold
  fold1 : p.fold < 2147483077
theorem get_cells (p : Pen) : valD p.kv (.inr "cells") = some (.lst (p.cells.map D.int)) := rfl
theorem get_at (p : Pen) : valD p.kv (.inr "at") = some (.int p.at_) := rfl
theorem get_digits (p : Pen) : valD p.kv (.inr "digits") = some (.int p.digits) := rfl
theorem get_count (p : Pen) : valD p.kv (.inr "count") = some (.int p.count) := rfl
theorem get_fold (p : Pen) : valD p.kv (.inr "fold") = some (.int p.fold) := rfl
theorem put_at (p : Pen) (v : Int) : putD p.kv (.inr "at") (.int v) = ({ p with at_ := v } : Pen).kv := rfl
theorem put_digits (p : Pen) (v : Int) : putD p.kv (.inr "digits") (.int v) = ({ p with digits := v } : Pen).kv := rfl
theorem put_count (p : Pen) (v : Int) : putD p.kv (.inr "count") (.int v) = ({ p with count := v } : Pen).kv := rfl
theorem put_fold (p : Pen) (v : Int) : putD p.kv (.inr "fold") (.int v) = ({ p with fold := v } : Pen).kv := rfl
theorem kv_len (p : Pen) : p.kv.length < sizeLine := by show 5 < sizeLine; decide
/-- d['k'], of the pen -/
theorem get_ok {st : Store} {n : Nat} {p : Pen} {k : Str} {v : D} {δ : DEnv} (i : Nat) (hi : δ[i]? = some (some (.ref n))) (h : st[n]? = some p.so) (e : valD p.kv (.inr k) = some v) : e2 fDget (eVar i) (eC (.str k)) δ st = .ok v st := by
  simp only [e2, eVar, eC, bind_eq, hi, Option.join_some, lift_some, pure_eq, fDget, h, Pen.so, e]
theorem put_ok {st st' : Store} {n : Nat} {p p' : Pen} {k : Str} {v : Int} {δ : DEnv} {m : EM} (i : Nat) (hm : m δ st = .ok (.int v) st') (hi : δ[i]? = some (some (.ref n))) (h : st'[n]? = some p.so) (e : putD p.kv (.inr k) (.int v) = p'.kv) :
    sDput (eVar i) (eC (.str k)) m δ st = .ok (.next, δ) (st'.set n p'.so) := by
  simp only [sDput, eVar, eC, bind_eq, hm, hi, Option.join_some, lift_some, pure_eq, h, Pen.so, if_pos (kv_len p), e]
theorem set_get {st : Store} {n : Nat} {p : Pen} {so : SO} (h : st[n]? = some so) : (st.set n p.so)[n]? = some p.so := List.getElem?_set_self (List.getElem?_eq_some_iff.mp h).1
theorem pen_M : (2305843009213693951 : Int) ≠ 0 := by decide
/-- the number that is blended -/
def blend (p : Pen) (many : Int) : Int := ((((p.fold + p.count * 5237 + 157) ^ 61).fmod 2305843009213693951).fdiv 128).fmod many
/-- the pen behind a draw, and what is drawn -/
def Pen.step (p : Pen) : Pen := 
  let p1 := { p with count := p.count + 1 }
  if p1.digits = 0 ∧ p1.at_ < p1.cells.length then
    let cell := p1.cells.getD p1.at_.toNat 0
    let p2 := { p1 with at_ := p1.at_ + 1 }
    if 10 ^ 18 ≤ cell then { p2 with digits := cell - 10 ^ 18 } else { p2 with fold := (p2.fold * 25301 + cell).fmod 2147483077 }
  else p1
def Pen.drawn (p : Pen) (many : Int) : Int × Pen :=
  let p3 := p.step
  if 0 < p3.digits then (p3.digits.fmod many, { p3 with digits := p3.digits.fdiv many }) else (blend p3 many, p3)
theorem PenOk.step {c : Int} {p : Pen} (h : PenOk c p) : PenOk (c + 1) p.step := by
  obtain ⟨h1, h2, h3, h4, h5, h6, h7⟩ := h
  unfold Pen.step
  dsimp only
  split
  · split
    · exact ⟨h1, by dsimp only; omega, by dsimp only; omega, by dsimp only; omega, by dsimp only; omega, h6, h7⟩
    · exact ⟨h1, by dsimp only; omega, h3, by dsimp only; omega, by dsimp only; omega, Int.fmod_nonneg_of_pos _ (by decide), Int.fmod_lt_of_pos _ (by decide)⟩
  · exact ⟨h1, h2, h3, by dsimp only; omega, by dsimp only; omega, h6, h7⟩
theorem PenOk.drawn {c : Int} {p : Pen} (h : PenOk c p) {many : Int} (hm : 0 < many) : PenOk (c + 1) (p.drawn many).2 ∧ 0 ≤ (p.drawn many).1 ∧ (p.drawn many).1 < many := by
  have h3 := h.step
  unfold Pen.drawn
  dsimp only
  split
  · rename_i hd
    obtain ⟨h1, h2, h3, h4, h5, h6, h7⟩ := h3
    refine ⟨⟨h1, h2, ?_, h4, h5, h6, h7⟩, Int.fmod_nonneg_of_pos _ hm, Int.fmod_lt_of_pos _ hm⟩
    exact Int.fdiv_nonneg (by omega) (by omega)
  · exact ⟨h3, Int.fmod_nonneg_of_pos _ hm, Int.fmod_lt_of_pos _ hm⟩
theorem step_cells (p : Pen) : p.step.cells = p.cells := by
  unfold Pen.step
  dsimp only
  split
  · split <;> rfl
  · rfl
theorem drawn_cells (p : Pen) (many : Int) : (p.drawn many).2.cells = p.cells := by
  unfold Pen.drawn
  dsimp only
  split
  · exact step_cells p
  · exact step_cells p
/-! ### values at ints -/
section
variable {st : Store} {i j : Int}
theorem x_plus : fPlus st (.int i) (.int j) = some (.int (i + j)) := rfl
theorem x_sub : fSub st (.int i) (.int j) = some (.int (i - j)) := rfl
theorem x_mod (h : j ≠ 0) : fMod st (.int i) (.int j) = some (.int (i.fmod j)) := if_pos h
theorem x_fdiv (h : j ≠ 0) (h2 : j.natAbs < 1073741824) : fFdiv st (.int i) (.int j) = some (.int (i.fdiv j)) := if_pos ⟨h, h2⟩
theorem x_pow (h : 0 ≤ j) (h1 : j ≤ 1000000) (h2 : i.natAbs < 2 ^ 64) : fPow st (.int i) (.int j) = some (.int (i ^ j.toNat)) := if_pos ⟨h, h1, h2⟩
theorem x_mul1 (h : -(2 ^ 64) < i) (h2 : i < 2 ^ 64) : fMul st (.int i) (.int j) = some (.int (i * j)) := if_pos (.inl ⟨h, h2⟩)
theorem x_mul2 (h : -(2 ^ 64) < j) (h2 : j < 2 ^ 64) : fMul st (.int i) (.int j) = some (.int (i * j)) := if_pos (.inr ⟨h, h2⟩)
theorem x_eq : fEqD st (.int i) (.int j) = some (.bl (i == j)) := rfl
theorem x_cmp {f : Int → Int → Bool} : fCmp f st (.int i) (.int j) = some (.bl (f i j)) := rfl
theorem x_int : fInt st [.int i] = some (.int i) := rfl
theorem x_len {xs : List D} : fLen st [.lst xs] = some (.int xs.length) := rfl
end
theorem M.ok_bind {α β : Type} {m : M α} {f : α → M β} {st st' : Store} {a : α} (h : m st = .ok a st') : (m >>= f) st = f a st' := by rw [bind_eq, h]
theorem seq_next {a b : SM} {δ δ' : DEnv} {st st' : Store} (h : a δ st = .ok (.next, δ') st') : sSeq a b δ st = b δ' st' := by
  unfold sSeq
  rw [M.ok_bind h]
theorem seq_ret {a b : SM} {δ δ' : DEnv} {st st' : Store} {d : D} (h : a δ st = .ok (.ret d, δ') st') : sSeq a b δ st = .ok (.ret d, δ') st' := by
  unfold sSeq
  rw [M.ok_bind h]
  rfl
theorem if_yes {t : TM} {a b : SM} {δ : DEnv} {st st' : Store} (h : t δ st = .ok true st') : sIf t a b δ st = a δ st' := by
  unfold sIf
  rw [M.ok_bind h]
  rfl
theorem if_not {t : TM} {a b : SM} {δ : DEnv} {st st' : Store} (h : t δ st = .ok false st') : sIf t a b δ st = b δ st' := by
  unfold sIf
  rw [M.ok_bind h]
  rfl
theorem set_run {m : EM} {i : Nat} {δ : DEnv} {st st' : Store} {d : D} (h : m δ st = .ok d st') : sSet i m δ st = .ok (.next, δ.set i (some d)) st' := by
  unfold sSet
  rw [M.ok_bind h]
  rfl
theorem ret_run {m : EM} {δ : DEnv} {st st' : Store} {d : D} (h : m δ st = .ok d st') : sRet m δ st = .ok (.ret d, δ) st' := by
  unfold sRet
  rw [M.ok_bind h]
  rfl
theorem e1_run {f : Store → D → Option D} {a : EM} {δ : DEnv} {st st1 : Store} {x v : D} (ha : a δ st = .ok x st1) (h : f st1 x = some v) : e1 f a δ st = .ok v st1 := by
  unfold e1
  rw [M.ok_bind ha, h]
  rfl
theorem e2_run {f : Store → D → D → Option D} {a b : EM} {δ : DEnv} {st st1 st2 : Store} {x y v : D} (ha : a δ st = .ok x st1) (hb : b δ st1 = .ok y st2) (h : f st2 x y = some v) : e2 f a b δ st = .ok v st2 := by
  unfold e2
  rw [M.ok_bind ha, M.ok_bind hb, h]
  rfl
theorem eN_run {f : Store → List D → Option D} {a : AM} {δ : DEnv} {st st1 : Store} {xs : List D} {v : D} (ha : a δ st = .ok xs st1) (h : f st1 xs = some v) : eN f a δ st = .ok v st1 := by
  unfold eN
  rw [M.ok_bind ha, h]
  rfl
theorem nil_run {δ : DEnv} {st : Store} : aNil δ st = .ok [] st := rfl
theorem cons_run {a : EM} {r : AM} {δ : DEnv} {st st1 st2 : Store} {x : D} {xs : List D} (ha : a δ st = .ok x st1) (hr : r δ st1 = .ok xs st2) : aCons a r δ st = .ok (x :: xs) st2 := by
  unfold aCons
  rw [M.ok_bind ha, M.ok_bind hr]
  rfl
theorem one_run {a : EM} {δ : DEnv} {st st1 : Store} {x : D} (ha : a δ st = .ok x st1) : aCons a aNil δ st = .ok [x] st1 := cons_run ha nil_run
theorem var_run {i : Nat} {δ : DEnv} {st : Store} {d : D} (h : δ[i]? = some (some d)) : eVar i δ st = .ok d st := by
  unfold eVar
  rw [h]
  rfl
theorem c_run {d : D} {δ : DEnv} {st : Store} : eC d δ st = .ok d st := rfl
theorem tOf_run {m : EM} {δ : DEnv} {st st' : Store} {b : Bool} (h : m δ st = .ok (.bl b) st') : tOf m δ st = .ok b st' := by
  unfold tOf
  rw [M.ok_bind h]
  rfl
theorem and_yes {a b : TM} {δ : DEnv} {st st' : Store} (h : a δ st = .ok true st') : tAndM a b δ st = b δ st' := by
  unfold tAndM
  rw [M.ok_bind h]
  rfl
theorem and_not {a b : TM} {δ : DEnv} {st st' : Store} (h : a δ st = .ok false st') : tAndM a b δ st = .ok false st' := by
  unfold tAndM
  rw [M.ok_bind h]
  rfl
theorem or_yes {a b : TM} {δ : DEnv} {st st' : Store} (h : a δ st = .ok true st') : tOrM a b δ st = .ok true st' := by
  unfold tOrM
  rw [M.ok_bind h]
  rfl
theorem or_not {a b : TM} {δ : DEnv} {st st' : Store} (h : a δ st = .ok false st') : tOrM a b δ st = b δ st' := by
  unfold tOrM
  rw [M.ok_bind h]
  rfl
theorem not_run {a : TM} {δ : DEnv} {st st' : Store} {c : Bool} (h : a δ st = .ok c st') : tNotM a δ st = .ok (!c) st' := by
  unfold tNotM
  rw [M.ok_bind h]
  rfl
theorem fn_ret {N : Nat} {body : SM} {ds : List D} {st st' : Store} {d : D} {δ : DEnv} (h : body (startD N ds) st = .ok (.ret d, δ) st') : fn N body ds st = .ok d st' := by
  unfold fn
  rw [M.ok_bind h]
  rfl
theorem fn_next {N : Nat} {body : SM} {ds : List D} {st st' : Store} {δ : DEnv} (h : body (startD N ds) st = .ok (.next, δ) st') : fn N body ds st = .ok .non st' := by
  unfold fn
  rw [M.ok_bind h]
  rfl
theorem call_run {n : Nat} {m : List D → M D} {a : AM} {δ : DEnv} {st st1 st2 : Store} {ds : List D} {d : D} (ha : a δ st = .ok ds st1) (hl : ds.length = n) (h : m ds st1 = .ok d st2) : eCall n m a δ st = .ok d st2 := by
  unfold eCall
  rw [M.ok_bind ha, if_pos hl, h]
theorem ifE_yes {t : TM} {a b : EM} {δ : DEnv} {st st' : Store} (h : t δ st = .ok true st') : eIf t a b δ st = a δ st' := by
  unfold eIf
  rw [M.ok_bind h]
  rfl
theorem ifE_not {t : TM} {a b : EM} {δ : DEnv} {st st' : Store} (h : t δ st = .ok false st') : eIf t a b δ st = b δ st' := by
  unfold eIf
  rw [M.ok_bind h]
  rfl
theorem item_run {st : Store} {xs : List D} {d : D} {i : Int} {x : D} (hs : seqOf st d = some xs) (h0 : 0 ≤ i) (h : xs[i.toNat]? = some x) : fItem st d (.int i) = some x := by
  unfold fItem
  simp only [hs, Option.bind_some]
  have hl := (List.getElem?_eq_some_iff.mp h).1
  unfold L2.atI ixN
  rw [if_pos h0, if_pos (by omega)]
  exact h
theorem blend_lt {p : Pen} {c : Int} (ok : PenOk c p) (hc : c ≤ 10 ^ 12 + 1) : (p.fold + p.count * 5237 + 157).natAbs < 2 ^ 64 := by
  obtain ⟨_, _, _, h1, h2, h3, h4⟩ := ok
  omega
theorem step_run {st : Store} {n : Nat} {p : Pen} {c many : Int} (h : st[n]? = some p.so) (ok : PenOk c p) :
    ∃ δ : DEnv, δ.length = 5 ∧ δ[0]? = some (some (.ref n)) ∧ δ[1]? = some (some (.int many)) ∧ ∀ rest : SM, 
    (sSeq (sDput (eVar 0) (eC (.str "count")) (e2 fPlus (e2 fDget (eVar 0) (eC (.str "count"))) (eC (.int 1))))
 (sSeq (sIf (tAndM (tOf (e2 fEqD (e2 fDget (eVar 0) (eC (.str "digits"))) (eC (.int 0)))) (tOf (e2 (fCmp fun i j => decide (i < j)) (e2 fDget (eVar 0) (eC (.str "at"))) (eN fLen (aCons (e2 fDget (eVar 0) (eC (.str "cells"))) aNil)))))
 (sSeq (sSet 2 (e2 fItem (e2 fDget (eVar 0) (eC (.str "cells"))) (e2 fDget (eVar 0) (eC (.str "at")))))
 (sSeq (sDput (eVar 0) (eC (.str "at")) (e2 fPlus (e2 fDget (eVar 0) (eC (.str "at"))) (eC (.int 1))))
 (sIf (tOf (e2 (fCmp fun i j => decide (j ≤ i)) (eVar 2) (e2 fPow (eC (.int 10)) (eC (.int 18)))))
 (sDput (eVar 0) (eC (.str "digits")) (e2 fSub (eVar 2) (e2 fPow (eC (.int 10)) (eC (.int 18)))))
 (sDput (eVar 0) (eC (.str "fold")) (e2 fMod (eN fInt (aCons (e2 fPlus (e2 fMul (e2 fDget (eVar 0) (eC (.str "fold"))) (eC (.int 25301))) (eVar 2)) aNil)) (eC (.int 2147483077)))))))
 sNil) rest)) (startD 5 [.ref n, .int many]) st = rest δ (st.set n p.step.so) := by
  have hn := (List.getElem?_eq_some_iff.mp h).1
  have G : ∀ so, (st.set n so)[n]? = some so := fun so => List.getElem?_set_self hn
  have e0 : startD 5 [.ref n, .int many] = [some (.ref n), some (.int many), none, none, none] := rfl
  rw [e0]
  -- count
  have s1 : sDput (eVar 0) (eC (.str "count")) (e2 fPlus (e2 fDget (eVar 0) (eC (.str "count"))) (eC (.int 1))) [some (.ref n), some (.int many), none, none, none] st = .ok (.next, [some (.ref n), some (.int many), none, none, none]) (st.set n ({ p with count := p.count + 1 } : Pen).so) :=
    put_ok 0 (e2_run (get_ok 0 rfl h (get_count p)) c_run x_plus) rfl h (put_count p _)
  have h1 := G ({ p with count := p.count + 1 } : Pen).so
  generalize hp1 : ({ p with count := p.count + 1 } : Pen) = p1 at s1 h1
  have c1 : p1.cells = p.cells := by rw [← hp1]
  have t1 : ∀ b : Bool, b = (p1.digits == 0) → tOf (e2 fEqD (e2 fDget (eVar 0) (eC (.str "digits"))) (eC (.int 0))) [some (.ref n), some (.int many), none, none, none] (st.set n p1.so) = .ok b (st.set n p1.so) := fun b hb => by
    rw [hb]
    exact tOf_run (e2_run (get_ok 0 rfl h1 (get_digits p1)) c_run x_eq)
  have t2 : ∀ b : Bool, b = decide (p1.at_ < ((p1.cells.map D.int).length : Int)) → tOf (e2 (fCmp fun i j => decide (i < j)) (e2 fDget (eVar 0) (eC (.str "at"))) (eN fLen (aCons (e2 fDget (eVar 0) (eC (.str "cells"))) aNil))) [some (.ref n), some (.int many), none, none, none] (st.set n p1.so) = .ok b (st.set n p1.so) := fun b hb => by
    rw [hb]
    exact tOf_run (e2_run (get_ok 0 rfl h1 (get_at p1)) (eN_run (one_run (get_ok 0 rfl h1 (get_cells p1))) x_len) x_cmp)
  have hstep : p.step = (if p1.digits = 0 ∧ p1.at_ < p1.cells.length then
    (if 10 ^ 18 ≤ p1.cells.getD p1.at_.toNat 0 then ({ p1 with at_ := p1.at_ + 1, digits := p1.cells.getD p1.at_.toNat 0 - 10 ^ 18 } : Pen) else { p1 with at_ := p1.at_ + 1, fold := (p1.fold * 25301 + p1.cells.getD p1.at_.toNat 0).fmod 2147483077 }) else p1) := by
    unfold Pen.step
    rw [hp1]
  by_cases hd : p1.digits = 0 ∧ p1.at_ < p1.cells.length
  · have hat : 0 ≤ p1.at_ := by rw [← hp1]; exact ok.at0
    have hlt : p1.at_.toNat < p1.cells.length := by omega
    obtain ⟨cell, hcell⟩ : ∃ cell, p1.cells.getD p1.at_.toNat 0 = cell := ⟨_, rfl⟩
    have hget : (p1.cells.map D.int)[p1.at_.toNat]? = some (.int cell) := by
      rw [List.getElem?_map, List.getElem?_eq_getElem hlt, ← hcell]
      simp [List.getD_eq_getElem?_getD, List.getElem?_eq_getElem hlt]
    rw [if_pos hd, hcell] at hstep
    refine ⟨[some (.ref n), some (.int many), some (.int cell), none, none], rfl, rfl, rfl, fun rest => ?_⟩
    rw [seq_next s1]
    have s2 : sSet 2 (e2 fItem (e2 fDget (eVar 0) (eC (.str "cells"))) (e2 fDget (eVar 0) (eC (.str "at")))) [some (.ref n), some (.int many), none, none, none] (st.set n p1.so) = .ok (.next, [some (.ref n), some (.int many), some (.int cell), none, none]) (st.set n p1.so) :=
      set_run (e2_run (get_ok 0 rfl h1 (get_cells p1)) (get_ok 0 rfl h1 (get_at p1)) (item_run rfl hat hget))
    have s3 : sDput (eVar 0) (eC (.str "at")) (e2 fPlus (e2 fDget (eVar 0) (eC (.str "at"))) (eC (.int 1))) [some (.ref n), some (.int many), some (.int cell), none, none] (st.set n p1.so) = .ok (.next, [some (.ref n), some (.int many), some (.int cell), none, none]) ((st.set n p1.so).set n ({ p1 with at_ := p1.at_ + 1 } : Pen).so) :=
      put_ok 0 (e2_run (get_ok 0 rfl h1 (get_at p1)) c_run x_plus) rfl h1 (put_at p1 _)
    rw [List.set_set] at s3
    have h2 := G ({ p1 with at_ := p1.at_ + 1 } : Pen).so
    generalize hp2 : ({ p1 with at_ := p1.at_ + 1 } : Pen) = p2 at s3 h2
    have t3 : tOf (e2 (fCmp fun i j => decide (j ≤ i)) (eVar 2) (e2 fPow (eC (.int 10)) (eC (.int 18)))) [some (.ref n), some (.int many), some (.int cell), none, none] (st.set n p2.so) = .ok (decide ((10 : Int) ^ (18 : Int).toNat ≤ cell)) (st.set n p2.so) :=
      tOf_run (e2_run (var_run rfl) (e2_run c_run c_run (x_pow (by decide) (by decide) (by decide))) x_cmp)
    have inner : sIf (tAndM (tOf (e2 fEqD (e2 fDget (eVar 0) (eC (.str "digits"))) (eC (.int 0)))) (tOf (e2 (fCmp fun i j => decide (i < j)) (e2 fDget (eVar 0) (eC (.str "at"))) (eN fLen (aCons (e2 fDget (eVar 0) (eC (.str "cells"))) aNil)))))  (sSeq (sSet 2 (e2 fItem (e2 fDget (eVar 0) (eC (.str "cells"))) (e2 fDget (eVar 0) (eC (.str "at")))))  (sSeq (sDput (eVar 0) (eC (.str "at")) (e2 fPlus (e2 fDget (eVar 0) (eC (.str "at"))) (eC (.int 1))))  (sIf (tOf (e2 (fCmp fun i j => decide (j ≤ i)) (eVar 2) (e2 fPow (eC (.int 10)) (eC (.int 18)))))  (sDput (eVar 0) (eC (.str "digits")) (e2 fSub (eVar 2) (e2 fPow (eC (.int 10)) (eC (.int 18)))))  (sDput (eVar 0) (eC (.str "fold")) (e2 fMod (eN fInt (aCons (e2 fPlus (e2 fMul (e2 fDget (eVar 0) (eC (.str "fold"))) (eC (.int 25301))) (eVar 2)) aNil)) (eC (.int 2147483077)))))))  sNil [some (.ref n), some (.int many), none, none, none] (st.set n p1.so) = .ok (.next, [some (.ref n), some (.int many), some (.int cell), none, none]) (st.set n p.step.so) := by
      rw [if_yes ((and_yes (t1 true (by simp [hd.1]))).trans (t2 true (by simp [hd.2])))]
      rw [seq_next s2, seq_next s3]
      by_cases hc : (10 : Int) ^ 18 ≤ cell
      · rw [if_yes (by rw [t3]; congr 1; simpa using hc)]
        rw [if_pos hc] at hstep
        have := put_ok (m := e2 fSub (eVar 2) (e2 fPow (eC (.int 10)) (eC (.int 18)))) (k := "digits") (p' := p.step) (δ := [some (.ref n), some (.int many), some (.int cell), none, none]) 0 (e2_run (var_run rfl) (e2_run c_run c_run (x_pow (by decide) (by decide) (by decide))) x_sub) rfl h2 (by rw [put_digits, hstep, ← hp2]; rfl)
        rw [List.set_set] at this
        exact this
      · rw [if_not (by rw [t3]; congr 1; simpa using hc)]
        rw [if_neg hc] at hstep
        have := put_ok (m := e2 fMod (eN fInt (aCons (e2 fPlus (e2 fMul (e2 fDget (eVar 0) (eC (.str "fold"))) (eC (.int 25301))) (eVar 2)) aNil)) (eC (.int 2147483077))) (k := "fold") (p' := p.step) (δ := [some (.ref n), some (.int many), some (.int cell), none, none]) 0
          (e2_run (eN_run (one_run (e2_run (e2_run (get_ok 0 rfl h2 (get_fold p2)) c_run (x_mul2 (by decide) (by decide))) (var_run rfl) x_plus)) x_int) c_run (x_mod (by decide))) rfl h2 (by rw [put_fold, hstep, ← hp2])
        rw [List.set_set] at this
        exact this
    rw [seq_next inner]
  · rw [if_neg hd] at hstep
    refine ⟨[some (.ref n), some (.int many), none, none, none], rfl, rfl, rfl, fun rest => ?_⟩
    rw [seq_next s1, hstep]
    by_cases h3 : p1.digits = 0
    · have h4 : ¬ p1.at_ < p1.cells.length := fun z => hd ⟨h3, z⟩
      rw [seq_next (δ' := [some (.ref n), some (.int many), none, none, none]) (st' := st.set n p1.so)]
      rw [if_not ((and_yes (t1 true (by simp [h3]))).trans (t2 false (by simpa using h4)))]
      rfl
    · rw [seq_next (δ' := [some (.ref n), some (.int many), none, none, none]) (st' := st.set n p1.so)]
      rw [if_not (and_not (t1 false (by simpa using h3)))]
      rfl
theorem draw_run {st : Store} {n : Nat} {p : Pen} {c many : Int} (h : st[n]? = some p.so) (ok : PenOk c p) (hc : c ≤ 10 ^ 12) (hm : 0 < many) (hm2 : many < 1073741824) :
    m__law_draw [.ref n, .int many] st = .ok (.int (p.drawn many).1) (st.set n (p.drawn many).2.so) := by
  have hn := (List.getElem?_eq_some_iff.mp h).1
  have G : ∀ so, (st.set n so)[n]? = some so := fun so => List.getElem?_set_self hn
  obtain ⟨δ, hl, d0, d1, run⟩ := step_run (many := many) h ok
  have ok3 := ok.step
  unfold m__law_draw
  obtain ⟨p3, hp3⟩ : ∃ p3, p.step = p3 := ⟨_, rfl⟩
  have hdr : p.drawn many = (if 0 < p3.digits then (p3.digits.fmod many, { p3 with digits := p3.digits.fdiv many }) else (blend p3 many, p3)) := by
    unfold Pen.drawn
    rw [hp3]
  rw [hp3] at run ok3
  have h3 := G p3.so
  have t : tOf (e2 (fCmp fun i j => decide (j < i)) (e2 fDget (eVar 0) (eC (.str "digits"))) (eC (.int 0))) δ (st.set n p3.so) = .ok (decide ((0 : Int) < p3.digits)) (st.set n p3.so) :=
    tOf_run (e2_run (get_ok 0 d0 h3 (get_digits p3)) c_run x_cmp)
  have mz : many ≠ 0 := by omega
  by_cases hd : 0 < p3.digits
  · rw [if_pos hd] at hdr
    rw [hdr]
    have a3 : (δ.set 3 (some (.int (p3.digits.fmod many))))[0]? = some (some (.ref n)) := by rw [List.getElem?_set_ne (by decide)]; exact d0
    have a4 : (δ.set 3 (some (.int (p3.digits.fmod many))))[1]? = some (some (.int many)) := by rw [List.getElem?_set_ne (by decide)]; exact d1
    have a5 : (δ.set 3 (some (.int (p3.digits.fmod many))))[3]? = some (some (.int (p3.digits.fmod many))) := List.getElem?_set_self (by omega)
    have s2 := put_ok (m := e2 fFdiv (e2 fDget (eVar 0) (eC (.str "digits"))) (eVar 1)) (k := "digits") (δ := δ.set 3 (some (.int (p3.digits.fmod many)))) 0 (e2_run (get_ok 0 a3 h3 (get_digits p3)) (var_run a4) (x_fdiv mz (by omega))) a3 h3 (put_digits p3 _)
    rw [List.set_set] at s2
    refine fn_ret (δ := δ.set 3 (some (.int (p3.digits.fmod many)))) ?_
    refine (run _).trans (seq_ret ?_)
    rw [if_yes (by rw [t, decide_eq_true hd])]
    rw [seq_next (set_run (e2_run (eN_run (one_run (get_ok 0 d0 h3 (get_digits p3))) x_int) (var_run d1) (x_mod mz)))]
    rw [seq_next s2]
    exact ret_run (var_run a5)
  · rw [if_neg hd] at hdr
    rw [hdr]
    have bl := blend_lt ok3 (by omega)
    obtain ⟨b, hb⟩ : ∃ b, p3.fold + p3.count * 5237 + 157 = b := ⟨_, rfl⟩
    rw [hb] at bl
    have a1 : (δ.set 4 (some (.int b)))[1]? = some (some (.int many)) := by rw [List.getElem?_set_ne (by decide)]; exact d1
    have a4 : (δ.set 4 (some (.int b)))[4]? = some (some (.int b)) := List.getElem?_set_self (by omega)
    refine fn_ret (δ := δ.set 4 (some (.int b))) ?_
    refine (run _).trans ?_
    rw [seq_next (δ' := δ) (st' := st.set n p3.so) (by rw [if_not (by rw [t, decide_eq_false hd])]; rfl)]
    have s4 : sSet 4 (e2 fPlus (e2 fPlus (e2 fDget (eVar 0) (eC (.str "fold"))) (e2 fMul (e2 fDget (eVar 0) (eC (.str "count"))) (eC (.int 5237)))) (eC (.int 157))) δ (st.set n p3.so) = .ok (.next, δ.set 4 (some (.int b))) (st.set n p3.so) := by
      rw [← hb]
      exact set_run (e2_run (e2_run (get_ok 0 d0 h3 (get_fold p3)) (e2_run (get_ok 0 d0 h3 (get_count p3)) c_run (x_mul2 (by decide) (by decide))) x_plus) c_run x_plus)
    rw [seq_next s4]
    have e : blend p3 many = (((b ^ 61).fmod 2305843009213693951).fdiv 128).fmod many := by unfold blend; rw [hb]
    rw [e]
    exact ret_run (e2_run (e2_run (eN_run (one_run (e2_run (e2_run (var_run a4) c_run (x_pow (by decide) (by decide) bl)) c_run (x_mod (by decide)))) x_int) c_run (x_fdiv (by decide) (by decide))) (var_run a1) (x_mod mz))
theorem len_run {st : Store} {d : D} {xs : List D} (h : seqOf st d = some xs) : fLen st [d] = some (.int xs.length) := by
  unfold fLen
  cases d with
  | ref n =>
    simp only [seqOf] at h
    split at h
    · rename_i q
      cases h
      simp [q]
    · cases h
  | lst ds => cases h; rfl
  | tup ds => cases h; rfl
  | _ => cases h
/-- some[draw] -/
theorem pick_run {st : Store} {n : Nat} {p : Pen} {c : Int} {d : D} {xs : List D} (h : st[n]? = some p.so) (ok : PenOk c p) (hc : c ≤ 10 ^ 12) (hs : seqOf st d = some xs) (hs2 : ∀ so, seqOf (st.set n so) d = some xs) (h0 : xs ≠ []) (h1 : xs.length ≤ 1000000) :
    ∃ (x : D) (p' : Pen), x ∈ xs ∧ PenOk (c + 1) p' ∧ m__law_pick [.ref n, d] st = .ok x (st.set n p'.so) := by
  have hl : 0 < xs.length := List.length_pos_iff.mpr h0
  have hm : (0 : Int) < (xs.length : Int) := by omega
  obtain ⟨ok', k0, k1⟩ := ok.drawn hm
  have hk : (p.drawn xs.length).1.toNat < xs.length := by omega
  refine ⟨xs[(p.drawn xs.length).1.toNat], (p.drawn xs.length).2, List.getElem_mem _, ok', ?_⟩
  unfold m__law_pick
  refine fn_ret (δ := [some (.ref n), some d]) (ret_run (e2_run (var_run rfl) (call_run (cons_run (var_run rfl) (one_run (eN_run (one_run (var_run rfl)) (len_run hs)))) rfl (draw_run h ok hc hm (by omega))) (item_run (hs2 _) k0 ?_)))
  exact List.getElem?_eq_getElem hk
/-- the pen, new -/
def foldOf (ns : List Int) : Int → Int := fun f => ns.foldl (fun f c => (f * 167 + c).fmod 999999323) f
theorem foldOf_ok : ∀ (ns : List Int) (f : Int), 0 ≤ f → f < 999999323 → 0 ≤ foldOf ns f ∧ foldOf ns f < 999999323
  | [], f, h0, h1 => ⟨h0, h1⟩
  | n :: ns, f, _, _ => foldOf_ok ns _ (Int.fmod_nonneg_of_pos _ (by decide)) (Int.fmod_lt_of_pos _ (by decide))
theorem pen_run {st : Store} {ns : List Int} (h : ns.length ≤ 1000) : ∃ p : Pen, PenOk 0 p ∧ p.cells = ns ∧ m__law_pen [.scr ns] st = .ok (.ref st.length) (st ++ [p.so]) := by
  obtain ⟨f0, f1⟩ := foldOf_ok ns 0 (by decide) (by decide)
  refine ⟨⟨ns, 0, 0, 0, foldOf ns 0⟩, ⟨h, Int.le_refl _, Int.le_refl _, Int.le_refl _, Int.le_refl _, f0, by dsimp only; omega⟩, rfl, ?_⟩
  unfold m__law_pen
  have loop : ∀ (ms : List Int) (f : Int) (o : Option D), 0 ≤ f → f < 999999323 → ∃ o', forL none (ns.map D.int) (gSet 2) (sSet 1 (e2 fMod (eN fInt (aCons (e2 fPlus (e2 fMul (eVar 1) (eC (.int 167))) (eVar 2)) aNil)) (eC (.int 999999323)))) (ms.map D.int) [some (.scr ns), some (.int f), o] st = .ok (.next, [some (.scr ns), some (.int (foldOf ms f)), o']) st := by
    intro ms
    induction ms with
    | nil => exact fun f o _ _ => ⟨o, rfl⟩
    | cons m ms ih =>
      intro f o g0 g1
      obtain ⟨o', ih'⟩ := ih ((f * 167 + m).fmod 999999323) (some (.int m)) (Int.fmod_nonneg_of_pos _ (by decide)) (Int.fmod_lt_of_pos _ (by decide))
      refine ⟨o', ?_⟩
      rw [List.map_cons]
      unfold forL
      rw [chk_none]
      show ((sSet 1 _ [some (.scr ns), some (.int f), some (.int m)]) >>= _) st = _
      rw [M.ok_bind (set_run (e2_run (eN_run (one_run (e2_run (e2_run (var_run rfl) c_run (x_mul2 (by decide) (by decide))) (var_run rfl) x_plus)) x_int) c_run (x_mod (by decide))))]
      exact ih'
  obtain ⟨o', hl⟩ := loop ns 0 none (by decide) (by decide)
  refine fn_ret (δ := [some (.scr ns), some (.int (foldOf ns 0)), o']) ?_
  rw [seq_next (set_run c_run)]
  have hit : itScr (eVar 0) [some (.scr ns), some (.int 0), none] st = .ok (ns.map D.int, none) st := rfl
  have hfor : sFor (itScr (eVar 0)) (gSet 2) (sSet 1 (e2 fMod (eN fInt (aCons (e2 fPlus (e2 fMul (eVar 1) (eC (.int 167))) (eVar 2)) aNil)) (eC (.int 999999323)))) [some (.scr ns), some (.int 0), none] st = .ok (.next, [some (.scr ns), some (.int (foldOf ns 0)), o']) st := by
    unfold sFor
    rw [M.ok_bind hit]
    exact hl
  show sSeq _ _ [some (.scr ns), some (.int 0), none] st = _
  rw [seq_next hfor]
  rfl
end DL
/-! k90_classes_made_by_hand: the readings and their derivations (printed) -/
namespace K90
open PySem PySem.Spec PyProof.Rows L2 DL
def topS (i : Nat) : Stmt := PySem.Challenge.pw_partialpapers_k90_classes_made_by_hand.main.body.getD i (.Pass ⟨0, 0, 0, 0⟩)

abbrev cs : List Str := ["Count", "Follows", "Breaks", "Series", "NoSeries", "Model", "Paper"]
abbrev cs_first : List Str := ["Count"]
abbrev cs_row : List Str := ["Count", "Series"]
abbrev cs_ops : List Str := ["Follows"]
abbrev cs_point : List Str := ["Breaks"]
abbrev cs_derivative : List Str := ["Breaks"]
abbrev cs_what : List Str := ["NoSeries"]
abbrev cs_letters : List Str := ["Model"]
abbrev cs_unknowns : List Str := ["Model"]
abbrev cs_kind : List Str := ["Model"]
abbrev cs_told : List Str := ["Model"]
abbrev cs_asks : List Str := ["Model"]
abbrev cs_unless : List Str := ["Paper"]
abbrev cs_shares : List Str := ["Paper"]
abbrev cs_made : List Str := ["Paper"]
abbrev cs_back : List Str := ["Paper"]
abbrev cs_pairs : List Str := ["Paper"]
abbrev cs_asked : List Str := ["Paper"]
def fl : Str → List Str := fun c => if c = "Count" then ["first", "row"] else if c = "Follows" then ["ops"] else if c = "Breaks" then ["point", "derivative"] else if c = "Series" then ["row"] else if c = "NoSeries" then ["what"] else if c = "Model" then ["letters", "unknowns", "kind", "told", "asks"] else if c = "Paper" then ["unless", "shares", "made", "back", "pairs", "asked"] else []
abbrev isi_Count := isiTbl cs "Count"
abbrev isi_Follows := isiTbl cs "Follows"
abbrev isi_Breaks := isiTbl cs "Breaks"
abbrev isi_Series := isiTbl cs "Series"
abbrev isi_NoSeries := isiTbl cs "NoSeries"
abbrev isi_Model := isiTbl cs "Model"
abbrev isi_Paper := isiTbl cs "Paper"
abbrev isi_list := isiTy "list" []
abbrev s_copied : Stmt := topS 1
abbrev s_Count___init__ : Stmt := inClass (topS 3) 0
abbrev s_Count___eq__ : Stmt := inClass (topS 3) 1
abbrev s_Follows___init__ : Stmt := inClass (topS 4) 0
abbrev s_Follows___eq__ : Stmt := inClass (topS 4) 1
abbrev s_Breaks___init__ : Stmt := inClass (topS 5) 0
abbrev s_Breaks___eq__ : Stmt := inClass (topS 5) 1
abbrev s_Series___init__ : Stmt := inClass (topS 6) 0
abbrev s_Series___eq__ : Stmt := inClass (topS 6) 1
abbrev s_NoSeries___init__ : Stmt := inClass (topS 7) 0
abbrev s_NoSeries___eq__ : Stmt := inClass (topS 7) 1
abbrev s_Model___init__ : Stmt := inClass (topS 9) 0
abbrev s_model_key : Stmt := topS 10
abbrev s_Model___eq__ : Stmt := inClass (topS 9) 1
abbrev s_Paper___init__ : Stmt := inClass (topS 12) 0
abbrev s_paper_key : Stmt := topS 13
abbrev s_Paper___eq__ : Stmt := inClass (topS 12) 1
abbrev s_Count___ne__ : Stmt := inClass (topS 3) 2
abbrev s_Follows___ne__ : Stmt := inClass (topS 4) 2
abbrev s_Breaks___ne__ : Stmt := inClass (topS 5) 2
abbrev s_Series___ne__ : Stmt := inClass (topS 6) 2
abbrev s_NoSeries___ne__ : Stmt := inClass (topS 7) 2
abbrev s_Model___ne__ : Stmt := inClass (topS 9) 2
abbrev s_Paper___ne__ : Stmt := inClass (topS 12) 2
abbrev s__law_pen : Stmt := topS 15
abbrev s__law_draw : Stmt := topS 16
abbrev s__law_pick : Stmt := topS 17
abbrev s__law_value : Stmt := topS 18
abbrev s__law_copy : Stmt := topS 19
abbrev s__law_fields : Stmt := topS 20
abbrev s__law_rows : Stmt := topS 21
abbrev s_law : Stmt := topS 22
theorem sc_copied : FnScope ["value"] ["value"] (defScope s_copied) := ⟨rfl, rfl, rfl, by decide +kernel, rfl, by decide +kernel, by decide +kernel⟩
theorem sc_Count___init__ : FnScope ["self", "first", "row"] ["self", "first", "row"] (defScope s_Count___init__) := ⟨rfl, rfl, rfl, by decide +kernel, rfl, by decide +kernel, by decide +kernel⟩
theorem sc_Count___eq__ : FnScope ["self", "other"] ["self", "other"] (defScope s_Count___eq__) := ⟨rfl, rfl, rfl, by decide +kernel, rfl, by decide +kernel, by decide +kernel⟩
theorem sc_Follows___init__ : FnScope ["self", "ops"] ["self", "ops"] (defScope s_Follows___init__) := ⟨rfl, rfl, rfl, by decide +kernel, rfl, by decide +kernel, by decide +kernel⟩
theorem sc_Follows___eq__ : FnScope ["self", "other"] ["self", "other"] (defScope s_Follows___eq__) := ⟨rfl, rfl, rfl, by decide +kernel, rfl, by decide +kernel, by decide +kernel⟩
theorem sc_Breaks___init__ : FnScope ["self", "point", "derivative"] ["self", "point", "derivative"] (defScope s_Breaks___init__) := ⟨rfl, rfl, rfl, by decide +kernel, rfl, by decide +kernel, by decide +kernel⟩
theorem sc_Breaks___eq__ : FnScope ["self", "other"] ["self", "other"] (defScope s_Breaks___eq__) := ⟨rfl, rfl, rfl, by decide +kernel, rfl, by decide +kernel, by decide +kernel⟩
theorem sc_Series___init__ : FnScope ["self", "row"] ["self", "row"] (defScope s_Series___init__) := ⟨rfl, rfl, rfl, by decide +kernel, rfl, by decide +kernel, by decide +kernel⟩
theorem sc_Series___eq__ : FnScope ["self", "other"] ["self", "other"] (defScope s_Series___eq__) := ⟨rfl, rfl, rfl, by decide +kernel, rfl, by decide +kernel, by decide +kernel⟩
theorem sc_NoSeries___init__ : FnScope ["self", "what"] ["self", "what"] (defScope s_NoSeries___init__) := ⟨rfl, rfl, rfl, by decide +kernel, rfl, by decide +kernel, by decide +kernel⟩
theorem sc_NoSeries___eq__ : FnScope ["self", "other"] ["self", "other"] (defScope s_NoSeries___eq__) := ⟨rfl, rfl, rfl, by decide +kernel, rfl, by decide +kernel, by decide +kernel⟩
theorem sc_Model___init__ : FnScope ["self", "letters", "unknowns", "kind", "told", "asks"] ["self", "letters", "unknowns", "kind", "told", "asks"] (defScope s_Model___init__) := ⟨rfl, rfl, rfl, by decide +kernel, rfl, by decide +kernel, by decide +kernel⟩
theorem sc_model_key : FnScope ["model"] ["model"] (defScope s_model_key) := ⟨rfl, rfl, rfl, by decide +kernel, rfl, by decide +kernel, by decide +kernel⟩
theorem sc_Model___eq__ : FnScope ["self", "other"] ["self", "other"] (defScope s_Model___eq__) := ⟨rfl, rfl, rfl, by decide +kernel, rfl, by decide +kernel, by decide +kernel⟩
theorem sc_Paper___init__ : FnScope ["self", "unless", "shares", "made", "back", "pairs", "asked"] ["self", "unless", "shares", "made", "back", "pairs", "asked"] (defScope s_Paper___init__) := ⟨rfl, rfl, rfl, by decide +kernel, rfl, by decide +kernel, by decide +kernel⟩
theorem sc_paper_key : FnScope ["paper"] ["paper"] (defScope s_paper_key) := ⟨rfl, rfl, rfl, by decide +kernel, rfl, by decide +kernel, by decide +kernel⟩
theorem sc_Paper___eq__ : FnScope ["self", "other"] ["self", "other"] (defScope s_Paper___eq__) := ⟨rfl, rfl, rfl, by decide +kernel, rfl, by decide +kernel, by decide +kernel⟩
theorem sc_Count___ne__ : FnScope ["self", "other"] ["self", "other"] (defScope s_Count___ne__) := ⟨rfl, rfl, rfl, by decide +kernel, rfl, by decide +kernel, by decide +kernel⟩
theorem sc_Follows___ne__ : FnScope ["self", "other"] ["self", "other"] (defScope s_Follows___ne__) := ⟨rfl, rfl, rfl, by decide +kernel, rfl, by decide +kernel, by decide +kernel⟩
theorem sc_Breaks___ne__ : FnScope ["self", "other"] ["self", "other"] (defScope s_Breaks___ne__) := ⟨rfl, rfl, rfl, by decide +kernel, rfl, by decide +kernel, by decide +kernel⟩
theorem sc_Series___ne__ : FnScope ["self", "other"] ["self", "other"] (defScope s_Series___ne__) := ⟨rfl, rfl, rfl, by decide +kernel, rfl, by decide +kernel, by decide +kernel⟩
theorem sc_NoSeries___ne__ : FnScope ["self", "other"] ["self", "other"] (defScope s_NoSeries___ne__) := ⟨rfl, rfl, rfl, by decide +kernel, rfl, by decide +kernel, by decide +kernel⟩
theorem sc_Model___ne__ : FnScope ["self", "other"] ["self", "other"] (defScope s_Model___ne__) := ⟨rfl, rfl, rfl, by decide +kernel, rfl, by decide +kernel, by decide +kernel⟩
theorem sc_Paper___ne__ : FnScope ["self", "other"] ["self", "other"] (defScope s_Paper___ne__) := ⟨rfl, rfl, rfl, by decide +kernel, rfl, by decide +kernel, by decide +kernel⟩
theorem sc__law_pen : FnScope ["script", "fold", "cell"] ["script"] (defScope s__law_pen) := ⟨rfl, rfl, rfl, by decide +kernel, rfl, by decide +kernel, by decide +kernel⟩
theorem sc__law_draw : FnScope ["pen", "many", "cell", "digit", "blend"] ["pen", "many"] (defScope s__law_draw) := ⟨rfl, rfl, rfl, by decide +kernel, rfl, by decide +kernel, by decide +kernel⟩
theorem sc__law_pick : FnScope ["pen", "some"] ["pen", "some"] (defScope s__law_pick) := ⟨rfl, rfl, rfl, by decide +kernel, rfl, by decide +kernel, by decide +kernel⟩
theorem sc__law_value : FnScope ["pen", "some", "k"] ["pen"] (defScope s__law_value) := ⟨rfl, rfl, rfl, by decide +kernel, rfl, by decide +kernel, by decide +kernel⟩
theorem sc__law_copy : FnScope ["value"] ["value"] (defScope s__law_copy) := ⟨rfl, rfl, rfl, by decide +kernel, rfl, by decide +kernel, by decide +kernel⟩
theorem sc__law_fields : FnScope ["one"] ["one"] (defScope s__law_fields) := ⟨rfl, rfl, rfl, by decide +kernel, rfl, by decide +kernel, by decide +kernel⟩
theorem sc__law_rows : FnScope ["a", "b", "c", "d", "e", "f", "g", "h", "rows"] ["a", "b", "c", "d"] (defScope s__law_rows) := ⟨rfl, rfl, rfl, by decide +kernel, rfl, by decide +kernel, by decide +kernel⟩
theorem sc_law : FnScope ["script", "pen", "values", "a", "b", "c", "d", "rows", "one", "two", "due", "k", "other", "before", "value"] ["script"] (defScope s_law) := ⟨rfl, rfl, rfl, by decide +kernel, rfl, by decide +kernel, by decide +kernel⟩
/-- where it all stands -/
structure Adr where
  (C_Count C_Follows C_Breaks C_Series C_NoSeries C_Model C_Paper : Addr)
  (a_copied a_Count___init__ a_Count___eq__ a_Follows___init__ a_Follows___eq__ a_Breaks___init__ a_Breaks___eq__ a_Series___init__ a_Series___eq__ a_NoSeries___init__ a_NoSeries___eq__ a_Model___init__ a_model_key a_Model___eq__ a_Paper___init__ a_paper_key a_Paper___eq__ a_Count___ne__ a_Follows___ne__ a_Breaks___ne__ a_Series___ne__ a_NoSeries___ne__ a_Model___ne__ a_Paper___ne__ a__law_pen a__law_draw a__law_pick a__law_value a__law_copy a__law_fields a__law_rows a_law : Addr)
  (d_copied d_Count___init__ d_Count___eq__ d_Follows___init__ d_Follows___eq__ d_Breaks___init__ d_Breaks___eq__ d_Series___init__ d_Series___eq__ d_NoSeries___init__ d_NoSeries___eq__ d_Model___init__ d_model_key d_Model___eq__ d_Paper___init__ d_paper_key d_Paper___eq__ d_Count___ne__ d_Follows___ne__ d_Breaks___ne__ d_Series___ne__ d_NoSeries___ne__ d_Model___ne__ d_Paper___ne__ d__law_pen d__law_draw d__law_pick d__law_value d__law_copy d__law_fields d__law_rows d_law : FuncData)
/-- what the top has written -/
structure Txt (K : PySem.W.Frag) (mg : Str → Option Value) (base : Heap) (A : Adr) : Prop where
  sys : SysB base
  z_len : mg "len" = none
  z_repr : mg "repr" = none
  z_isinstance : mg "isinstance" = none
  z_int : mg "int" = none
  z_tuple : mg "tuple" = none
  z_list : mg "list" = none
  z_range : mg "range" = none
  F_copied : Fun K "copied" "copied" s_copied A.a_copied A.d_copied
  b_copied : Binds K A.d_copied ["value"] []
  g_copied : mg "copied" = some (.ref A.a_copied)
  F_Count___init__ : Fun K "__init__" "Count.__init__" s_Count___init__ A.a_Count___init__ A.d_Count___init__
  b_Count___init__ : Binds K A.d_Count___init__ ["self", "first", "row"] []
  F_Count___eq__ : Fun K "__eq__" "Count.__eq__" s_Count___eq__ A.a_Count___eq__ A.d_Count___eq__
  b_Count___eq__ : Binds K A.d_Count___eq__ ["self", "other"] []
  F_Follows___init__ : Fun K "__init__" "Follows.__init__" s_Follows___init__ A.a_Follows___init__ A.d_Follows___init__
  b_Follows___init__ : Binds K A.d_Follows___init__ ["self", "ops"] []
  F_Follows___eq__ : Fun K "__eq__" "Follows.__eq__" s_Follows___eq__ A.a_Follows___eq__ A.d_Follows___eq__
  b_Follows___eq__ : Binds K A.d_Follows___eq__ ["self", "other"] []
  F_Breaks___init__ : Fun K "__init__" "Breaks.__init__" s_Breaks___init__ A.a_Breaks___init__ A.d_Breaks___init__
  b_Breaks___init__ : Binds K A.d_Breaks___init__ ["self", "point", "derivative"] []
  F_Breaks___eq__ : Fun K "__eq__" "Breaks.__eq__" s_Breaks___eq__ A.a_Breaks___eq__ A.d_Breaks___eq__
  b_Breaks___eq__ : Binds K A.d_Breaks___eq__ ["self", "other"] []
  F_Series___init__ : Fun K "__init__" "Series.__init__" s_Series___init__ A.a_Series___init__ A.d_Series___init__
  b_Series___init__ : Binds K A.d_Series___init__ ["self", "row"] []
  F_Series___eq__ : Fun K "__eq__" "Series.__eq__" s_Series___eq__ A.a_Series___eq__ A.d_Series___eq__
  b_Series___eq__ : Binds K A.d_Series___eq__ ["self", "other"] []
  F_NoSeries___init__ : Fun K "__init__" "NoSeries.__init__" s_NoSeries___init__ A.a_NoSeries___init__ A.d_NoSeries___init__
  b_NoSeries___init__ : Binds K A.d_NoSeries___init__ ["self", "what"] []
  F_NoSeries___eq__ : Fun K "__eq__" "NoSeries.__eq__" s_NoSeries___eq__ A.a_NoSeries___eq__ A.d_NoSeries___eq__
  b_NoSeries___eq__ : Binds K A.d_NoSeries___eq__ ["self", "other"] []
  F_Model___init__ : Fun K "__init__" "Model.__init__" s_Model___init__ A.a_Model___init__ A.d_Model___init__
  b_Model___init__ : Binds K A.d_Model___init__ ["self", "letters", "unknowns", "kind", "told", "asks"] []
  F_model_key : Fun K "model_key" "model_key" s_model_key A.a_model_key A.d_model_key
  b_model_key : Binds K A.d_model_key ["model"] []
  g_model_key : mg "model_key" = some (.ref A.a_model_key)
  F_Model___eq__ : Fun K "__eq__" "Model.__eq__" s_Model___eq__ A.a_Model___eq__ A.d_Model___eq__
  b_Model___eq__ : Binds K A.d_Model___eq__ ["self", "other"] []
  F_Paper___init__ : Fun K "__init__" "Paper.__init__" s_Paper___init__ A.a_Paper___init__ A.d_Paper___init__
  b_Paper___init__ : Binds K A.d_Paper___init__ ["self", "unless", "shares", "made", "back", "pairs", "asked"] []
  F_paper_key : Fun K "paper_key" "paper_key" s_paper_key A.a_paper_key A.d_paper_key
  b_paper_key : Binds K A.d_paper_key ["paper"] []
  g_paper_key : mg "paper_key" = some (.ref A.a_paper_key)
  F_Paper___eq__ : Fun K "__eq__" "Paper.__eq__" s_Paper___eq__ A.a_Paper___eq__ A.d_Paper___eq__
  b_Paper___eq__ : Binds K A.d_Paper___eq__ ["self", "other"] []
  F_Count___ne__ : Fun K "__ne__" "Count.__ne__" s_Count___ne__ A.a_Count___ne__ A.d_Count___ne__
  b_Count___ne__ : Binds K A.d_Count___ne__ ["self", "other"] []
  F_Follows___ne__ : Fun K "__ne__" "Follows.__ne__" s_Follows___ne__ A.a_Follows___ne__ A.d_Follows___ne__
  b_Follows___ne__ : Binds K A.d_Follows___ne__ ["self", "other"] []
  F_Breaks___ne__ : Fun K "__ne__" "Breaks.__ne__" s_Breaks___ne__ A.a_Breaks___ne__ A.d_Breaks___ne__
  b_Breaks___ne__ : Binds K A.d_Breaks___ne__ ["self", "other"] []
  F_Series___ne__ : Fun K "__ne__" "Series.__ne__" s_Series___ne__ A.a_Series___ne__ A.d_Series___ne__
  b_Series___ne__ : Binds K A.d_Series___ne__ ["self", "other"] []
  F_NoSeries___ne__ : Fun K "__ne__" "NoSeries.__ne__" s_NoSeries___ne__ A.a_NoSeries___ne__ A.d_NoSeries___ne__
  b_NoSeries___ne__ : Binds K A.d_NoSeries___ne__ ["self", "other"] []
  F_Model___ne__ : Fun K "__ne__" "Model.__ne__" s_Model___ne__ A.a_Model___ne__ A.d_Model___ne__
  b_Model___ne__ : Binds K A.d_Model___ne__ ["self", "other"] []
  F_Paper___ne__ : Fun K "__ne__" "Paper.__ne__" s_Paper___ne__ A.a_Paper___ne__ A.d_Paper___ne__
  b_Paper___ne__ : Binds K A.d_Paper___ne__ ["self", "other"] []
  F__law_pen : Fun K "_law_pen" "_law_pen" s__law_pen A.a__law_pen A.d__law_pen
  b__law_pen : Binds K A.d__law_pen ["script"] []
  g__law_pen : mg "_law_pen" = some (.ref A.a__law_pen)
  F__law_draw : Fun K "_law_draw" "_law_draw" s__law_draw A.a__law_draw A.d__law_draw
  b__law_draw : Binds K A.d__law_draw ["pen", "many"] []
  g__law_draw : mg "_law_draw" = some (.ref A.a__law_draw)
  F__law_pick : Fun K "_law_pick" "_law_pick" s__law_pick A.a__law_pick A.d__law_pick
  b__law_pick : Binds K A.d__law_pick ["pen", "some"] []
  g__law_pick : mg "_law_pick" = some (.ref A.a__law_pick)
  F__law_value : Fun K "_law_value" "_law_value" s__law_value A.a__law_value A.d__law_value
  b__law_value : Binds K A.d__law_value ["pen"] []
  g__law_value : mg "_law_value" = some (.ref A.a__law_value)
  F__law_copy : Fun K "_law_copy" "_law_copy" s__law_copy A.a__law_copy A.d__law_copy
  b__law_copy : Binds K A.d__law_copy ["value"] []
  g__law_copy : mg "_law_copy" = some (.ref A.a__law_copy)
  F__law_fields : Fun K "_law_fields" "_law_fields" s__law_fields A.a__law_fields A.d__law_fields
  b__law_fields : Binds K A.d__law_fields ["one"] []
  g__law_fields : mg "_law_fields" = some (.ref A.a__law_fields)
  F__law_rows : Fun K "_law_rows" "_law_rows" s__law_rows A.a__law_rows A.d__law_rows
  b__law_rows : Binds K A.d__law_rows ["a", "b", "c", "d"] []
  g__law_rows : mg "_law_rows" = some (.ref A.a__law_rows)
  F_law : Fun K "law" "law" s_law A.a_law A.d_law
  b_law : Binds K A.d_law ["script"] []
  g_law : mg "law" = some (.ref A.a_law)
  g_Count : mg "Count" = some (.ref A.C_Count)
  cl_Count : Cls K A.C_Count
  ow_Count : OwnC K A.C_Count
  mk_Count : Mk K A.C_Count A.a_Count___init__
  fi_Count___eq__ : PySem.W.findIn K (.ref A.C_Count) "__eq__" = some (some (.ref A.a_Count___eq__))
  fn_Count___eq__ : PySem.W.isFn K (.ref A.a_Count___eq__) = true
  fi_Count___ne__ : PySem.W.findIn K (.ref A.C_Count) "__ne__" = some (some (.ref A.a_Count___ne__))
  fn_Count___ne__ : PySem.W.isFn K (.ref A.a_Count___ne__) = true
  na_Count_first : NoAttr K A.C_Count "first"
  na_Count_row : NoAttr K A.C_Count "row"
  kw_Count : BindsK K A.d_Count___init__ ["self", "first", "row"] ["row", "first"] [1, 0]
  nf_Count : ∀ c' ∈ cs, ∃ C', mg c' = some (.ref C') ∧ PySem.W.notFirst K A.C_Count (.ref C') = true
  kt_Count : ∀ c ∈ cs, ∃ C, mg c = some (.ref C) ∧ OwnC K C ∧ PySem.W.kitOne K (.ref C) (.ref A.C_Count) = some (decide (c = "Count"))
  g_Follows : mg "Follows" = some (.ref A.C_Follows)
  cl_Follows : Cls K A.C_Follows
  ow_Follows : OwnC K A.C_Follows
  mk_Follows : Mk K A.C_Follows A.a_Follows___init__
  fi_Follows___eq__ : PySem.W.findIn K (.ref A.C_Follows) "__eq__" = some (some (.ref A.a_Follows___eq__))
  fn_Follows___eq__ : PySem.W.isFn K (.ref A.a_Follows___eq__) = true
  fi_Follows___ne__ : PySem.W.findIn K (.ref A.C_Follows) "__ne__" = some (some (.ref A.a_Follows___ne__))
  fn_Follows___ne__ : PySem.W.isFn K (.ref A.a_Follows___ne__) = true
  na_Follows_ops : NoAttr K A.C_Follows "ops"
  kw_Follows : BindsK K A.d_Follows___init__ ["self", "ops"] ["ops"] [0]
  nf_Follows : ∀ c' ∈ cs, ∃ C', mg c' = some (.ref C') ∧ PySem.W.notFirst K A.C_Follows (.ref C') = true
  kt_Follows : ∀ c ∈ cs, ∃ C, mg c = some (.ref C) ∧ OwnC K C ∧ PySem.W.kitOne K (.ref C) (.ref A.C_Follows) = some (decide (c = "Follows"))
  g_Breaks : mg "Breaks" = some (.ref A.C_Breaks)
  cl_Breaks : Cls K A.C_Breaks
  ow_Breaks : OwnC K A.C_Breaks
  mk_Breaks : Mk K A.C_Breaks A.a_Breaks___init__
  fi_Breaks___eq__ : PySem.W.findIn K (.ref A.C_Breaks) "__eq__" = some (some (.ref A.a_Breaks___eq__))
  fn_Breaks___eq__ : PySem.W.isFn K (.ref A.a_Breaks___eq__) = true
  fi_Breaks___ne__ : PySem.W.findIn K (.ref A.C_Breaks) "__ne__" = some (some (.ref A.a_Breaks___ne__))
  fn_Breaks___ne__ : PySem.W.isFn K (.ref A.a_Breaks___ne__) = true
  na_Breaks_point : NoAttr K A.C_Breaks "point"
  na_Breaks_derivative : NoAttr K A.C_Breaks "derivative"
  kw_Breaks : BindsK K A.d_Breaks___init__ ["self", "point", "derivative"] ["derivative", "point"] [1, 0]
  nf_Breaks : ∀ c' ∈ cs, ∃ C', mg c' = some (.ref C') ∧ PySem.W.notFirst K A.C_Breaks (.ref C') = true
  kt_Breaks : ∀ c ∈ cs, ∃ C, mg c = some (.ref C) ∧ OwnC K C ∧ PySem.W.kitOne K (.ref C) (.ref A.C_Breaks) = some (decide (c = "Breaks"))
  g_Series : mg "Series" = some (.ref A.C_Series)
  cl_Series : Cls K A.C_Series
  ow_Series : OwnC K A.C_Series
  mk_Series : Mk K A.C_Series A.a_Series___init__
  fi_Series___eq__ : PySem.W.findIn K (.ref A.C_Series) "__eq__" = some (some (.ref A.a_Series___eq__))
  fn_Series___eq__ : PySem.W.isFn K (.ref A.a_Series___eq__) = true
  fi_Series___ne__ : PySem.W.findIn K (.ref A.C_Series) "__ne__" = some (some (.ref A.a_Series___ne__))
  fn_Series___ne__ : PySem.W.isFn K (.ref A.a_Series___ne__) = true
  na_Series_row : NoAttr K A.C_Series "row"
  kw_Series : BindsK K A.d_Series___init__ ["self", "row"] ["row"] [0]
  nf_Series : ∀ c' ∈ cs, ∃ C', mg c' = some (.ref C') ∧ PySem.W.notFirst K A.C_Series (.ref C') = true
  kt_Series : ∀ c ∈ cs, ∃ C, mg c = some (.ref C) ∧ OwnC K C ∧ PySem.W.kitOne K (.ref C) (.ref A.C_Series) = some (decide (c = "Series"))
  g_NoSeries : mg "NoSeries" = some (.ref A.C_NoSeries)
  cl_NoSeries : Cls K A.C_NoSeries
  ow_NoSeries : OwnC K A.C_NoSeries
  mk_NoSeries : Mk K A.C_NoSeries A.a_NoSeries___init__
  fi_NoSeries___eq__ : PySem.W.findIn K (.ref A.C_NoSeries) "__eq__" = some (some (.ref A.a_NoSeries___eq__))
  fn_NoSeries___eq__ : PySem.W.isFn K (.ref A.a_NoSeries___eq__) = true
  fi_NoSeries___ne__ : PySem.W.findIn K (.ref A.C_NoSeries) "__ne__" = some (some (.ref A.a_NoSeries___ne__))
  fn_NoSeries___ne__ : PySem.W.isFn K (.ref A.a_NoSeries___ne__) = true
  na_NoSeries_what : NoAttr K A.C_NoSeries "what"
  kw_NoSeries : BindsK K A.d_NoSeries___init__ ["self", "what"] ["what"] [0]
  nf_NoSeries : ∀ c' ∈ cs, ∃ C', mg c' = some (.ref C') ∧ PySem.W.notFirst K A.C_NoSeries (.ref C') = true
  kt_NoSeries : ∀ c ∈ cs, ∃ C, mg c = some (.ref C) ∧ OwnC K C ∧ PySem.W.kitOne K (.ref C) (.ref A.C_NoSeries) = some (decide (c = "NoSeries"))
  g_Model : mg "Model" = some (.ref A.C_Model)
  cl_Model : Cls K A.C_Model
  ow_Model : OwnC K A.C_Model
  mk_Model : Mk K A.C_Model A.a_Model___init__
  fi_Model___eq__ : PySem.W.findIn K (.ref A.C_Model) "__eq__" = some (some (.ref A.a_Model___eq__))
  fn_Model___eq__ : PySem.W.isFn K (.ref A.a_Model___eq__) = true
  fi_Model___ne__ : PySem.W.findIn K (.ref A.C_Model) "__ne__" = some (some (.ref A.a_Model___ne__))
  fn_Model___ne__ : PySem.W.isFn K (.ref A.a_Model___ne__) = true
  na_Model_letters : NoAttr K A.C_Model "letters"
  na_Model_unknowns : NoAttr K A.C_Model "unknowns"
  na_Model_kind : NoAttr K A.C_Model "kind"
  na_Model_told : NoAttr K A.C_Model "told"
  na_Model_asks : NoAttr K A.C_Model "asks"
  kw_Model : BindsK K A.d_Model___init__ ["self", "letters", "unknowns", "kind", "told", "asks"] ["asks", "told", "kind", "unknowns", "letters"] [4, 3, 2, 1, 0]
  nf_Model : ∀ c' ∈ cs, ∃ C', mg c' = some (.ref C') ∧ PySem.W.notFirst K A.C_Model (.ref C') = true
  kt_Model : ∀ c ∈ cs, ∃ C, mg c = some (.ref C) ∧ OwnC K C ∧ PySem.W.kitOne K (.ref C) (.ref A.C_Model) = some (decide (c = "Model"))
  g_Paper : mg "Paper" = some (.ref A.C_Paper)
  cl_Paper : Cls K A.C_Paper
  ow_Paper : OwnC K A.C_Paper
  mk_Paper : Mk K A.C_Paper A.a_Paper___init__
  fi_Paper___eq__ : PySem.W.findIn K (.ref A.C_Paper) "__eq__" = some (some (.ref A.a_Paper___eq__))
  fn_Paper___eq__ : PySem.W.isFn K (.ref A.a_Paper___eq__) = true
  fi_Paper___ne__ : PySem.W.findIn K (.ref A.C_Paper) "__ne__" = some (some (.ref A.a_Paper___ne__))
  fn_Paper___ne__ : PySem.W.isFn K (.ref A.a_Paper___ne__) = true
  na_Paper_unless : NoAttr K A.C_Paper "unless"
  na_Paper_shares : NoAttr K A.C_Paper "shares"
  na_Paper_made : NoAttr K A.C_Paper "made"
  na_Paper_back : NoAttr K A.C_Paper "back"
  na_Paper_pairs : NoAttr K A.C_Paper "pairs"
  na_Paper_asked : NoAttr K A.C_Paper "asked"
  kw_Paper : BindsK K A.d_Paper___init__ ["self", "unless", "shares", "made", "back", "pairs", "asked"] ["asked", "pairs", "back", "made", "shares", "unless"] [5, 4, 3, 2, 1, 0]
  nf_Paper : ∀ c' ∈ cs, ∃ C', mg c' = some (.ref C') ∧ PySem.W.notFirst K A.C_Paper (.ref C') = true
  kt_Paper : ∀ c ∈ cs, ∃ C, mg c = some (.ref C) ∧ OwnC K C ∧ PySem.W.kitOne K (.ref C) (.ref A.C_Paper) = some (decide (c = "Paper"))
theorem Txt.fld_first {K : PySem.W.Frag} {mg : Str → Option Value} {base : Heap} {A : Adr} (T : Txt K mg base A) : FldOkR K mg cs_first "first" := fldOk_by (by
  intro c hc
  simp only [List.mem_cons, List.not_mem_nil, or_false] at hc
  rcases hc with rfl
  · exact ⟨_, T.g_Count, T.cl_Count, T.na_Count_first⟩)
theorem Txt.fld_row {K : PySem.W.Frag} {mg : Str → Option Value} {base : Heap} {A : Adr} (T : Txt K mg base A) : FldOkR K mg cs_row "row" := fldOk_by (by
  intro c hc
  simp only [List.mem_cons, List.not_mem_nil, or_false] at hc
  rcases hc with rfl | rfl
  · exact ⟨_, T.g_Count, T.cl_Count, T.na_Count_row⟩
  · exact ⟨_, T.g_Series, T.cl_Series, T.na_Series_row⟩)
theorem Txt.fld_ops {K : PySem.W.Frag} {mg : Str → Option Value} {base : Heap} {A : Adr} (T : Txt K mg base A) : FldOkR K mg cs_ops "ops" := fldOk_by (by
  intro c hc
  simp only [List.mem_cons, List.not_mem_nil, or_false] at hc
  rcases hc with rfl
  · exact ⟨_, T.g_Follows, T.cl_Follows, T.na_Follows_ops⟩)
theorem Txt.fld_point {K : PySem.W.Frag} {mg : Str → Option Value} {base : Heap} {A : Adr} (T : Txt K mg base A) : FldOkR K mg cs_point "point" := fldOk_by (by
  intro c hc
  simp only [List.mem_cons, List.not_mem_nil, or_false] at hc
  rcases hc with rfl
  · exact ⟨_, T.g_Breaks, T.cl_Breaks, T.na_Breaks_point⟩)
theorem Txt.fld_derivative {K : PySem.W.Frag} {mg : Str → Option Value} {base : Heap} {A : Adr} (T : Txt K mg base A) : FldOkR K mg cs_derivative "derivative" := fldOk_by (by
  intro c hc
  simp only [List.mem_cons, List.not_mem_nil, or_false] at hc
  rcases hc with rfl
  · exact ⟨_, T.g_Breaks, T.cl_Breaks, T.na_Breaks_derivative⟩)
theorem Txt.fld_what {K : PySem.W.Frag} {mg : Str → Option Value} {base : Heap} {A : Adr} (T : Txt K mg base A) : FldOkR K mg cs_what "what" := fldOk_by (by
  intro c hc
  simp only [List.mem_cons, List.not_mem_nil, or_false] at hc
  rcases hc with rfl
  · exact ⟨_, T.g_NoSeries, T.cl_NoSeries, T.na_NoSeries_what⟩)
theorem Txt.fld_letters {K : PySem.W.Frag} {mg : Str → Option Value} {base : Heap} {A : Adr} (T : Txt K mg base A) : FldOkR K mg cs_letters "letters" := fldOk_by (by
  intro c hc
  simp only [List.mem_cons, List.not_mem_nil, or_false] at hc
  rcases hc with rfl
  · exact ⟨_, T.g_Model, T.cl_Model, T.na_Model_letters⟩)
theorem Txt.fld_unknowns {K : PySem.W.Frag} {mg : Str → Option Value} {base : Heap} {A : Adr} (T : Txt K mg base A) : FldOkR K mg cs_unknowns "unknowns" := fldOk_by (by
  intro c hc
  simp only [List.mem_cons, List.not_mem_nil, or_false] at hc
  rcases hc with rfl
  · exact ⟨_, T.g_Model, T.cl_Model, T.na_Model_unknowns⟩)
theorem Txt.fld_kind {K : PySem.W.Frag} {mg : Str → Option Value} {base : Heap} {A : Adr} (T : Txt K mg base A) : FldOkR K mg cs_kind "kind" := fldOk_by (by
  intro c hc
  simp only [List.mem_cons, List.not_mem_nil, or_false] at hc
  rcases hc with rfl
  · exact ⟨_, T.g_Model, T.cl_Model, T.na_Model_kind⟩)
theorem Txt.fld_told {K : PySem.W.Frag} {mg : Str → Option Value} {base : Heap} {A : Adr} (T : Txt K mg base A) : FldOkR K mg cs_told "told" := fldOk_by (by
  intro c hc
  simp only [List.mem_cons, List.not_mem_nil, or_false] at hc
  rcases hc with rfl
  · exact ⟨_, T.g_Model, T.cl_Model, T.na_Model_told⟩)
theorem Txt.fld_asks {K : PySem.W.Frag} {mg : Str → Option Value} {base : Heap} {A : Adr} (T : Txt K mg base A) : FldOkR K mg cs_asks "asks" := fldOk_by (by
  intro c hc
  simp only [List.mem_cons, List.not_mem_nil, or_false] at hc
  rcases hc with rfl
  · exact ⟨_, T.g_Model, T.cl_Model, T.na_Model_asks⟩)
theorem Txt.fld_unless {K : PySem.W.Frag} {mg : Str → Option Value} {base : Heap} {A : Adr} (T : Txt K mg base A) : FldOkR K mg cs_unless "unless" := fldOk_by (by
  intro c hc
  simp only [List.mem_cons, List.not_mem_nil, or_false] at hc
  rcases hc with rfl
  · exact ⟨_, T.g_Paper, T.cl_Paper, T.na_Paper_unless⟩)
theorem Txt.fld_shares {K : PySem.W.Frag} {mg : Str → Option Value} {base : Heap} {A : Adr} (T : Txt K mg base A) : FldOkR K mg cs_shares "shares" := fldOk_by (by
  intro c hc
  simp only [List.mem_cons, List.not_mem_nil, or_false] at hc
  rcases hc with rfl
  · exact ⟨_, T.g_Paper, T.cl_Paper, T.na_Paper_shares⟩)
theorem Txt.fld_made {K : PySem.W.Frag} {mg : Str → Option Value} {base : Heap} {A : Adr} (T : Txt K mg base A) : FldOkR K mg cs_made "made" := fldOk_by (by
  intro c hc
  simp only [List.mem_cons, List.not_mem_nil, or_false] at hc
  rcases hc with rfl
  · exact ⟨_, T.g_Paper, T.cl_Paper, T.na_Paper_made⟩)
theorem Txt.fld_back {K : PySem.W.Frag} {mg : Str → Option Value} {base : Heap} {A : Adr} (T : Txt K mg base A) : FldOkR K mg cs_back "back" := fldOk_by (by
  intro c hc
  simp only [List.mem_cons, List.not_mem_nil, or_false] at hc
  rcases hc with rfl
  · exact ⟨_, T.g_Paper, T.cl_Paper, T.na_Paper_back⟩)
theorem Txt.fld_pairs {K : PySem.W.Frag} {mg : Str → Option Value} {base : Heap} {A : Adr} (T : Txt K mg base A) : FldOkR K mg cs_pairs "pairs" := fldOk_by (by
  intro c hc
  simp only [List.mem_cons, List.not_mem_nil, or_false] at hc
  rcases hc with rfl
  · exact ⟨_, T.g_Paper, T.cl_Paper, T.na_Paper_pairs⟩)
theorem Txt.fld_asked {K : PySem.W.Frag} {mg : Str → Option Value} {base : Heap} {A : Adr} (T : Txt K mg base A) : FldOkR K mg cs_asked "asked" := fldOk_by (by
  intro c hc
  simp only [List.mem_cons, List.not_mem_nil, or_false] at hc
  rcases hc with rfl
  · exact ⟨_, T.g_Paper, T.cl_Paper, T.na_Paper_asked⟩)
theorem Txt.is_Count {K : PySem.W.Frag} {mg : Str → Option Value} {base : Heap} {A : Adr} (T : Txt K mg base A) : IsiOk K mg (.ref A.C_Count) isi_Count := isiTbl_ok T.kt_Count
theorem Txt.is_Follows {K : PySem.W.Frag} {mg : Str → Option Value} {base : Heap} {A : Adr} (T : Txt K mg base A) : IsiOk K mg (.ref A.C_Follows) isi_Follows := isiTbl_ok T.kt_Follows
theorem Txt.is_Breaks {K : PySem.W.Frag} {mg : Str → Option Value} {base : Heap} {A : Adr} (T : Txt K mg base A) : IsiOk K mg (.ref A.C_Breaks) isi_Breaks := isiTbl_ok T.kt_Breaks
theorem Txt.is_Series {K : PySem.W.Frag} {mg : Str → Option Value} {base : Heap} {A : Adr} (T : Txt K mg base A) : IsiOk K mg (.ref A.C_Series) isi_Series := isiTbl_ok T.kt_Series
theorem Txt.is_NoSeries {K : PySem.W.Frag} {mg : Str → Option Value} {base : Heap} {A : Adr} (T : Txt K mg base A) : IsiOk K mg (.ref A.C_NoSeries) isi_NoSeries := isiTbl_ok T.kt_NoSeries
theorem Txt.is_Model {K : PySem.W.Frag} {mg : Str → Option Value} {base : Heap} {A : Adr} (T : Txt K mg base A) : IsiOk K mg (.ref A.C_Model) isi_Model := isiTbl_ok T.kt_Model
theorem Txt.is_Paper {K : PySem.W.Frag} {mg : Str → Option Value} {base : Heap} {A : Adr} (T : Txt K mg base A) : IsiOk K mg (.ref A.C_Paper) isi_Paper := isiTbl_ok T.kt_Paper
/-! ### the readings -/
noncomputable def m_copied : List D → M D := fn 1
 (sRet (eIf (tOf (eIsi isi_list (eVar 0))) (eN fTuple (aCons (eVar 0) aNil)) (eVar 0)))
noncomputable def m_Count : List D → M D := fn 3
 (sSeq (sFldM cs_first "first" (eVar 0) (eVar 1))
 (sFldM cs_row "row" (eVar 0) (eCall 1 m_copied (aCons (eVar 2) aNil))))
noncomputable def m_Count___eq__ : List D → M D := fn 2
 (sRet (eAnd (eIsi isi_Count (eVar 1)) (e2 fEqD (eTup (aCons (e1 (fFld fl cs_first "first") (eVar 0)) (aCons (e1 (fFld fl cs_row "row") (eVar 0)) aNil))) (eTup (aCons (e1 (fFld fl cs_first "first") (eVar 1)) (aCons (e1 (fFld fl cs_row "row") (eVar 1)) aNil))))))
noncomputable def m_Follows : List D → M D := fn 2
 (sFldM cs_ops "ops" (eVar 0) (eCall 1 m_copied (aCons (eVar 1) aNil)))
noncomputable def m_Follows___eq__ : List D → M D := fn 2
 (sRet (eAnd (eIsi isi_Follows (eVar 1)) (e2 fEqD (e1 (fFld fl cs_ops "ops") (eVar 0)) (e1 (fFld fl cs_ops "ops") (eVar 1)))))
noncomputable def m_Breaks : List D → M D := fn 3
 (sSeq (sFldM cs_point "point" (eVar 0) (eCall 1 m_copied (aCons (eVar 1) aNil)))
 (sFldM cs_derivative "derivative" (eVar 0) (eCall 1 m_copied (aCons (eVar 2) aNil))))
noncomputable def m_Breaks___eq__ : List D → M D := fn 2
 (sRet (eAnd (eIsi isi_Breaks (eVar 1)) (e2 fEqD (eTup (aCons (e1 (fFld fl cs_point "point") (eVar 0)) (aCons (e1 (fFld fl cs_derivative "derivative") (eVar 0)) aNil))) (eTup (aCons (e1 (fFld fl cs_point "point") (eVar 1)) (aCons (e1 (fFld fl cs_derivative "derivative") (eVar 1)) aNil))))))
noncomputable def m_Series : List D → M D := fn 2
 (sFldM cs_row "row" (eVar 0) (eCall 1 m_copied (aCons (eVar 1) aNil)))
noncomputable def m_Series___eq__ : List D → M D := fn 2
 (sRet (eAnd (eIsi isi_Series (eVar 1)) (e2 fEqD (e1 (fFld fl cs_row "row") (eVar 0)) (e1 (fFld fl cs_row "row") (eVar 1)))))
noncomputable def m_NoSeries : List D → M D := fn 2
 (sFldM cs_what "what" (eVar 0) (eVar 1))
noncomputable def m_NoSeries___eq__ : List D → M D := fn 2
 (sRet (eAnd (eIsi isi_NoSeries (eVar 1)) (e2 fEqD (e1 (fFld fl cs_what "what") (eVar 0)) (e1 (fFld fl cs_what "what") (eVar 1)))))
noncomputable def m_Model : List D → M D := fn 6
 (sSeq (sFldM cs_letters "letters" (eVar 0) (eCall 1 m_copied (aCons (eVar 1) aNil)))
 (sSeq (sFldM cs_unknowns "unknowns" (eVar 0) (eCall 1 m_copied (aCons (eVar 2) aNil)))
 (sSeq (sFldM cs_kind "kind" (eVar 0) (eVar 3))
 (sSeq (sFldM cs_told "told" (eVar 0) (eCall 1 m_copied (aCons (eVar 4) aNil)))
 (sFldM cs_asks "asks" (eVar 0) (eCall 1 m_copied (aCons (eVar 5) aNil)))))))
noncomputable def m_model_key : List D → M D := fn 1
 (sRet (eTup (aCons (e1 (fFld fl cs_letters "letters") (eVar 0)) (aCons (e1 (fFld fl cs_unknowns "unknowns") (eVar 0)) (aCons (e1 (fFld fl cs_kind "kind") (eVar 0)) (aCons (e1 (fFld fl cs_told "told") (eVar 0)) (aCons (e1 (fFld fl cs_asks "asks") (eVar 0)) aNil)))))))
noncomputable def m_Model___eq__ : List D → M D := fn 2
 (sRet (eAnd (eIsi isi_Model (eVar 1)) (e2 fEqD (eCall 1 m_model_key (aCons (eVar 0) aNil)) (eCall 1 m_model_key (aCons (eVar 1) aNil)))))
noncomputable def m_Paper : List D → M D := fn 7
 (sSeq (sFldM cs_unless "unless" (eVar 0) (eCall 1 m_copied (aCons (eVar 1) aNil)))
 (sSeq (sFldM cs_shares "shares" (eVar 0) (eCall 1 m_copied (aCons (eVar 2) aNil)))
 (sSeq (sFldM cs_made "made" (eVar 0) (eCall 1 m_copied (aCons (eVar 3) aNil)))
 (sSeq (sFldM cs_back "back" (eVar 0) (eCall 1 m_copied (aCons (eVar 4) aNil)))
 (sSeq (sFldM cs_pairs "pairs" (eVar 0) (eCall 1 m_copied (aCons (eVar 5) aNil)))
 (sFldM cs_asked "asked" (eVar 0) (eCall 1 m_copied (aCons (eVar 6) aNil))))))))
noncomputable def m_paper_key : List D → M D := fn 1
 (sRet (eTup (aCons (e1 (fFld fl cs_unless "unless") (eVar 0)) (aCons (e1 (fFld fl cs_shares "shares") (eVar 0)) (aCons (e1 (fFld fl cs_made "made") (eVar 0)) (aCons (e1 (fFld fl cs_back "back") (eVar 0)) (aCons (e1 (fFld fl cs_pairs "pairs") (eVar 0)) (aCons (e1 (fFld fl cs_asked "asked") (eVar 0)) aNil))))))))
noncomputable def m_Paper___eq__ : List D → M D := fn 2
 (sRet (eAnd (eIsi isi_Paper (eVar 1)) (e2 fEqD (eCall 1 m_paper_key (aCons (eVar 0) aNil)) (eCall 1 m_paper_key (aCons (eVar 1) aNil)))))
noncomputable def tblEq : Str → Option (List D → M D) := fun c => if c = "Count" then some m_Count___eq__ else if c = "Follows" then some m_Follows___eq__ else if c = "Breaks" then some m_Breaks___eq__ else if c = "Series" then some m_Series___eq__ else if c = "NoSeries" then some m_NoSeries___eq__ else if c = "Model" then some m_Model___eq__ else if c = "Paper" then some m_Paper___eq__ else none
noncomputable def m_Count___ne__ : List D → M D := fn 2
 (sRet (eNot (e2M (fOwn tblEq cs fEqD) (eVar 0) (eVar 1))))
noncomputable def m_Follows___ne__ : List D → M D := fn 2
 (sRet (eNot (e2M (fOwn tblEq cs fEqD) (eVar 0) (eVar 1))))
noncomputable def m_Breaks___ne__ : List D → M D := fn 2
 (sRet (eNot (e2M (fOwn tblEq cs fEqD) (eVar 0) (eVar 1))))
noncomputable def m_Series___ne__ : List D → M D := fn 2
 (sRet (eNot (e2M (fOwn tblEq cs fEqD) (eVar 0) (eVar 1))))
noncomputable def m_NoSeries___ne__ : List D → M D := fn 2
 (sRet (eNot (e2M (fOwn tblEq cs fEqD) (eVar 0) (eVar 1))))
noncomputable def m_Model___ne__ : List D → M D := fn 2
 (sRet (eNot (e2M (fOwn tblEq cs fEqD) (eVar 0) (eVar 1))))
noncomputable def m_Paper___ne__ : List D → M D := fn 2
 (sRet (eNot (e2M (fOwn tblEq cs fEqD) (eVar 0) (eVar 1))))
noncomputable def tblNe : Str → Option (List D → M D) := fun c => if c = "Count" then some m_Count___ne__ else if c = "Follows" then some m_Follows___ne__ else if c = "Breaks" then some m_Breaks___ne__ else if c = "Series" then some m_Series___ne__ else if c = "NoSeries" then some m_NoSeries___ne__ else if c = "Model" then some m_Model___ne__ else if c = "Paper" then some m_Paper___ne__ else none
noncomputable def m__law_value : List D → M D := fn 3
 (sSeq (sSet 1 (eLst (aCons (eTup (aCons (eC (.int 1)) (aCons (eC (.int 2)) aNil))) (aCons (eLst (aCons (eC (.int 1)) (aCons (eLst (aCons (eC (.int 2)) aNil)) aNil))) (aCons (eLst aNil) (aCons (eTup aNil) (aCons (eC (.str "web")) (aCons (eC (.int 5)) (aCons (eC .non) (aCons (eC (.bl true)) (aCons (eTup (aCons (eTup (aCons (eC (.int 0)) (aCons (eC (.int 1)) aNil))) aNil)) (aCons (eLst (aCons (eLst (aCons (eC (.int 0)) aNil)) (aCons (eLst (aCons (eC (.int 1)) aNil)) aNil))) (aCons (eDisp [("a", (eC (.int 1)))]) (aCons (e1 fNeg (eC (.int 3))) (aCons (eC (.str "")) (aCons (eLst (aCons (eC .non) aNil)) aNil))))))))))))))))
 (sRet (eCall 2 m__law_pick (aCons (eVar 0) (aCons (e2 fPlus (eVar 1) (eLst (aCons (eComp [2] (itRange1 (eC (.int 3))) (gSet 2) tYesM (eCall 2 m__law_draw (aCons (eVar 0) (aCons (eC (.int 9)) aNil)))) aNil))) aNil)))))
noncomputable def m__law_copy : List D → M D := fn 1
 (sRet (eIf (tOf (eIsi isi_list (eVar 0))) (eN fTuple (aCons (eVar 0) aNil)) (eVar 0)))
noncomputable def m__law_fields : List D → M D := fn 1
 (sSeq (sIf (tOf (eIsi isi_Count (eVar 0)))
 (sRet (eLst (aCons (eC (.str "Count")) (aCons (e1 (fFld fl cs_first "first") (eVar 0)) (aCons (e1 (fFld fl cs_row "row") (eVar 0)) aNil)))))
 sNil)
 (sSeq (sIf (tOf (eIsi isi_Follows (eVar 0)))
 (sRet (eLst (aCons (eC (.str "Follows")) (aCons (e1 (fFld fl cs_ops "ops") (eVar 0)) aNil))))
 sNil)
 (sSeq (sIf (tOf (eIsi isi_Breaks (eVar 0)))
 (sRet (eLst (aCons (eC (.str "Breaks")) (aCons (e1 (fFld fl cs_point "point") (eVar 0)) (aCons (e1 (fFld fl cs_derivative "derivative") (eVar 0)) aNil)))))
 sNil)
 (sSeq (sIf (tOf (eIsi isi_Series (eVar 0)))
 (sRet (eLst (aCons (eC (.str "Series")) (aCons (e1 (fFld fl cs_row "row") (eVar 0)) aNil))))
 sNil)
 (sSeq (sIf (tOf (eIsi isi_NoSeries (eVar 0)))
 (sRet (eLst (aCons (eC (.str "NoSeries")) (aCons (e1 (fFld fl cs_what "what") (eVar 0)) aNil))))
 sNil)
 (sSeq (sIf (tOf (eIsi isi_Model (eVar 0)))
 (sRet (eLst (aCons (eC (.str "Model")) (aCons (e1 (fFld fl cs_letters "letters") (eVar 0)) (aCons (e1 (fFld fl cs_unknowns "unknowns") (eVar 0)) (aCons (e1 (fFld fl cs_kind "kind") (eVar 0)) (aCons (e1 (fFld fl cs_told "told") (eVar 0)) (aCons (e1 (fFld fl cs_asks "asks") (eVar 0)) aNil))))))))
 sNil)
 (sSeq (sIf (tOf (eIsi isi_Paper (eVar 0)))
 (sRet (eLst (aCons (eC (.str "Paper")) (aCons (e1 (fFld fl cs_unless "unless") (eVar 0)) (aCons (e1 (fFld fl cs_shares "shares") (eVar 0)) (aCons (e1 (fFld fl cs_made "made") (eVar 0)) (aCons (e1 (fFld fl cs_back "back") (eVar 0)) (aCons (e1 (fFld fl cs_pairs "pairs") (eVar 0)) (aCons (e1 (fFld fl cs_asked "asked") (eVar 0)) aNil)))))))))
 sNil)
 (sRet (eLst (aCons (eC (.str "other")) aNil))))))))))
noncomputable def m__law_rows : List D → M D := fn 9
 (sSeq (sAsg (gTupD 4 (gsCons (gSet 4) (gsCons (gSet 5) (gsCons (gSet 6) (gsCons (gSet 7) gsNil))))) (eTup (aCons (eCall 1 m__law_copy (aCons (eVar 0) aNil)) (aCons (eCall 1 m__law_copy (aCons (eVar 1) aNil)) (aCons (eCall 1 m__law_copy (aCons (eVar 2) aNil)) (aCons (eCall 1 m__law_copy (aCons (eVar 3) aNil)) aNil))))))
 (sSeq (sSet 8 (eNew (aCons (eTup (aCons (eMake fl "Count" 2 m_Count (aCons (eC (.int 3)) (aCons (eVar 0) aNil))) (aCons (eMakeK fl "Count" 2 [1, 0] m_Count (aCons (eVar 0) (aCons (eC (.int 3)) aNil))) (aCons (eLst (aCons (eC (.str "Count")) (aCons (eC (.int 3)) (aCons (eVar 4) aNil)))) aNil)))) (aCons (eTup (aCons (eMake fl "Follows" 1 m_Follows (aCons (eVar 0) aNil)) (aCons (eMakeK fl "Follows" 1 [0] m_Follows (aCons (eVar 0) aNil)) (aCons (eLst (aCons (eC (.str "Follows")) (aCons (eVar 4) aNil))) aNil)))) aNil))))
 (sSeq (sEx (eApp (eVar 8) (eTup (aCons (eMake fl "Breaks" 2 m_Breaks (aCons (eVar 0) (aCons (eVar 1) aNil))) (aCons (eMakeK fl "Breaks" 2 [1, 0] m_Breaks (aCons (eVar 1) (aCons (eVar 0) aNil))) (aCons (eLst (aCons (eC (.str "Breaks")) (aCons (eVar 4) (aCons (eVar 5) aNil)))) aNil))))))
 (sSeq (sEx (eApp (eVar 8) (eTup (aCons (eMake fl "Series" 1 m_Series (aCons (eVar 0) aNil)) (aCons (eMakeK fl "Series" 1 [0] m_Series (aCons (eVar 0) aNil)) (aCons (eLst (aCons (eC (.str "Series")) (aCons (eVar 4) aNil))) aNil))))))
 (sSeq (sEx (eApp (eVar 8) (eTup (aCons (eMake fl "NoSeries" 1 m_NoSeries (aCons (eC (.str "point")) aNil)) (aCons (eMakeK fl "NoSeries" 1 [0] m_NoSeries (aCons (eC (.str "point")) aNil)) (aCons (eLst (aCons (eC (.str "NoSeries")) (aCons (eC (.str "point")) aNil))) aNil))))))
 (sSeq (sEx (eApp (eVar 8) (eTup (aCons (eMake fl "Model" 5 m_Model (aCons (eVar 0) (aCons (eVar 1) (aCons (eC (.str "x")) (aCons (eVar 2) (aCons (eVar 3) aNil)))))) (aCons (eMakeK fl "Model" 5 [4, 3, 2, 1, 0] m_Model (aCons (eVar 3) (aCons (eVar 2) (aCons (eC (.str "x")) (aCons (eVar 1) (aCons (eVar 0) aNil)))))) (aCons (eLst (aCons (eC (.str "Model")) (aCons (eVar 4) (aCons (eVar 5) (aCons (eC (.str "x")) (aCons (eVar 6) (aCons (eVar 7) aNil))))))) aNil))))))
 (sSeq (sEx (eApp (eVar 8) (eTup (aCons (eMake fl "Paper" 6 m_Paper (aCons (eVar 0) (aCons (eVar 1) (aCons (eVar 2) (aCons (eVar 3) (aCons (eVar 0) (aCons (eVar 1) aNil))))))) (aCons (eMakeK fl "Paper" 6 [5, 4, 3, 2, 1, 0] m_Paper (aCons (eVar 1) (aCons (eVar 0) (aCons (eVar 3) (aCons (eVar 2) (aCons (eVar 1) (aCons (eVar 0) aNil))))))) (aCons (eLst (aCons (eC (.str "Paper")) (aCons (eVar 4) (aCons (eVar 5) (aCons (eVar 6) (aCons (eVar 7) (aCons (eVar 4) (aCons (eVar 5) aNil)))))))) aNil))))))
 (sRet (eVar 8)))))))))
noncomputable def m_law : List D → M D := fn 15
 (sSeq (sSet 1 (eCall 1 m__law_pen (aCons (eVar 0) aNil)))
 (sSeq (sSet 2 (eComp [11] (itRange1 (eC (.int 4))) (gSet 11) tYesM (eCall 1 m__law_value (aCons (eVar 1) aNil))))
 (sSeq (sAsg (gLstD 4 (gsCons (gSet 3) (gsCons (gSet 4) (gsCons (gSet 5) (gsCons (gSet 6) gsNil))))) (eComp [14] (itSeq (eVar 2)) (gSet 14) tYesM (eIf (tOf (eIsi isi_list (eVar 14))) (eListN (aCons (eVar 14) aNil)) (eVar 14))))
 (sSeq (sSet 7 (eCall 4 m__law_rows (aCons (eVar 3) (aCons (eVar 4) (aCons (eVar 5) (aCons (eVar 6) aNil))))))
 (sSeq (sFor (itSeq (eVar 7)) (gTupD 3 (gsCons (gSet 8) (gsCons (gSet 9) (gsCons (gSet 10) gsNil))))
 (sIf (tOrM (tOf (e2 fNe (eN fRepr (aCons (eCall 1 m__law_fields (aCons (eVar 8) aNil)) aNil)) (eN fRepr (aCons (eVar 10) aNil)))) (tOrM (tOf (e2 fNe (eN fRepr (aCons (eCall 1 m__law_fields (aCons (eVar 9) aNil)) aNil)) (eN fRepr (aCons (eVar 10) aNil)))) (tOrM (tOf (e2M (fOwn tblNe cs fNe) (eVar 8) (eVar 9))) (tNotM (tOf (e2M (fOwn tblEq cs fEqD) (eVar 8) (eVar 9)))))))
 (sRet (eC (.bl false)))
 sNil))
 (sSeq (sFor (itRange1 (eN fLen (aCons (eVar 7) aNil))) (gSet 11)
 (sSeq (sSet 12 (e2 fItem (e2 fItem (eVar 7) (e2 fMod (eN fInt (aCons (e2 fPlus (e2 fPlus (eVar 11) (eC (.int 1))) (eCall 2 m__law_draw (aCons (eVar 1) (aCons (e2 fSub (eN fLen (aCons (eVar 7) aNil)) (eC (.int 1))) aNil)))) aNil)) (eN fLen (aCons (eVar 7) aNil)))) (eC (.int 0))))
 (sIf (tOrM (tOf (e2M (fOwn tblEq cs fEqD) (e2 fItem (e2 fItem (eVar 7) (eVar 11)) (eC (.int 0))) (eVar 12))) (tNotM (tOf (e2M (fOwn tblNe cs fNe) (e2 fItem (e2 fItem (eVar 7) (eVar 11)) (eC (.int 0))) (eVar 12)))))
 (sRet (eC (.bl false)))
 sNil)))
 (sSeq (sIf (tOrM (tOf (e2M (fOwn tblEq cs fEqD) (eMake fl "Count" 2 m_Count (aCons (eC (.int 0)) (aCons (eTup (aCons (eC (.int 1)) aNil)) aNil))) (eMake fl "Count" 2 m_Count (aCons (eC (.int 0)) (aCons (eTup (aCons (eC (.int 2)) aNil)) aNil))))) (tOrM (tOf (e2M (fOwn tblEq cs fEqD) (eMake fl "Follows" 1 m_Follows (aCons (eTup aNil) aNil)) (eMake fl "Follows" 1 m_Follows (aCons (eTup (aCons (eC (.int 1)) aNil)) aNil)))) (tOrM (tOf (e2M (fOwn tblEq cs fEqD) (eMake fl "Breaks" 2 m_Breaks (aCons (eTup aNil) (aCons (eC (.int 1)) aNil))) (eMake fl "Breaks" 2 m_Breaks (aCons (eTup aNil) (aCons (eC (.int 2)) aNil))))) (tOf (e2M (fOwn tblEq cs fEqD) (eMake fl "Series" 1 m_Series (aCons (eTup aNil) aNil)) (eMake fl "Series" 1 m_Series (aCons (eTup (aCons (eC (.int 1)) aNil)) aNil)))))))
 (sRet (eC (.bl false)))
 sNil)
 (sSeq (sIf (tOrM (tOf (e2M (fOwn tblEq cs fEqD) (eMake fl "NoSeries" 1 m_NoSeries (aCons (eC (.str "point")) aNil)) (eMake fl "NoSeries" 1 m_NoSeries (aCons (eC (.str "start")) aNil)))) (tOf (e2M (fOwn tblEq cs fEqD) (eMake fl "Model" 5 m_Model (aCons (eTup aNil) (aCons (eTup aNil) (aCons (eC (.str "x")) (aCons (eTup aNil) (aCons (eTup aNil) aNil)))))) (eMake fl "Model" 5 m_Model (aCons (eTup aNil) (aCons (eTup aNil) (aCons (eC (.str "y")) (aCons (eTup aNil) (aCons (eTup aNil) aNil)))))))))
 (sRet (eC (.bl false)))
 sNil)
 (sSeq (sSet 13 (eN fRepr (aCons (e1 (fFld fl cs_ops "ops") (e2 fItem (e2 fItem (eVar 7) (eC (.int 1))) (eC (.int 0)))) aNil)))
 (sSeq (sIf (tOf (eIsi isi_list (eVar 3)))
 (sEx (eApp (eVar 3) (eC (.int 7))))
 sNil)
 (sRet (e2 fEqD (eN fRepr (aCons (e1 (fFld fl cs_ops "ops") (e2 fItem (e2 fItem (eVar 7) (eC (.int 1))) (eC (.int 0)))) aNil)) (eVar 13)))))))))))))
/-! ### the derivations -/
section
variable {P : Program} {w : World} {K : PySem.W.Frag} {mg : Str → Option Value} {base : Heap} {A : Adr}
theorem isi_ok_list (T : Txt K mg base A) : IsiOk K mg (.type "list") isi_list := isi_list_ok
theorem fn_copied (T : Txt K mg base A) : FnG P w K mg base 1 A.a_copied A.d_copied ["value"] (spD ⟨K, mg, fl⟩ 1 m_copied) :=
 fnok_of T.F_copied sc_copied fun cdv A outer s H E hr => by
  have sc := sc_copied
  exact (dss_one (ds_ret (de_if (dt_val (de_isi rfl T.z_isinstance bb_isinstance (.ty _) (isi_ok_list T) (de_var (i := 0) rfl (by first | exact .inl rfl | exact .inr (.inl rfl) | exact .inr (.inr rfl))) (pe_bltn rfl T.z_list bb_list rfl))) (de_ty call_tuple_of v_tuple rfl T.z_tuple bb_tuple (da_cons (de_var (i := 0) rfl (by first | exact .inl rfl | exact .inr (.inl rfl) | exact .inr (.inr rfl))) da_nil)) (de_var (i := 0) rfl (by first | exact .inl rfl | exact .inr (.inl rfl) | exact .inr (.inr rfl))))))
theorem fd_copied (T : Txt K mg base A) : Fd P w K mg base fl 1 "copied" 1 m_copied := ⟨⟨_, _, _, fn_copied T, T.g_copied, T.F_copied.kp, T.b_copied⟩⟩
theorem md_Count (T : Txt K mg base A) : Md P w K mg base fl 2 A.a_Count___init__ A.d_Count___init__ ["self", "first", "row"] m_Count :=
 ⟨fnok_of T.F_Count___init__ sc_Count___init__ fun cdv A outer s H E hr => by
  have sc := sc_Count___init__
  exact (dss_cons (ds_fld T.fld_first (de_var (i := 0) rfl (by first | exact .inl rfl | exact .inr (.inl rfl) | exact .inr (.inr rfl))) (de_var (i := 1) rfl (by first | exact .inl rfl | exact .inr (.inl rfl) | exact .inr (.inr rfl))))
 (dss_one (ds_fld T.fld_row (de_var (i := 0) rfl (by first | exact .inl rfl | exact .inr (.inl rfl) | exact .inr (.inr rfl))) (de_call (fd_copied T) (hr.mono (by decide)) (takes_of rfl rfl rfl rfl) rfl (da_cons (de_var (i := 2) rfl (by first | exact .inl rfl | exact .inr (.inl rfl) | exact .inr (.inr rfl))) da_nil))))), T.b_Count___init__⟩
theorem md_Count___eq__ (T : Txt K mg base A) : Md P w K mg base fl 1 A.a_Count___eq__ A.d_Count___eq__ ["self", "other"] m_Count___eq__ :=
 ⟨fnok_of T.F_Count___eq__ sc_Count___eq__ fun cdv A outer s H E hr => by
  have sc := sc_Count___eq__
  exact (dss_one (ds_ret (de_and (de_isi rfl T.z_isinstance bb_isinstance (.own _) T.is_Count (de_var (i := 1) rfl (by first | exact .inl rfl | exact .inr (.inl rfl) | exact .inr (.inr rfl))) (pe_glob rfl T.g_Count rfl)) (de_one (de_cmp (op_eqD hr T.sys) v_eqD (de_tup (da_cons (de_fld T.fld_first (de_var (i := 0) rfl (by first | exact .inl rfl | exact .inr (.inl rfl) | exact .inr (.inr rfl)))) (da_cons (de_fld T.fld_row (de_var (i := 0) rfl (by first | exact .inl rfl | exact .inr (.inl rfl) | exact .inr (.inr rfl)))) da_nil))) (de_tup (da_cons (de_fld T.fld_first (de_var (i := 1) rfl (by first | exact .inl rfl | exact .inr (.inl rfl) | exact .inr (.inr rfl)))) (da_cons (de_fld T.fld_row (de_var (i := 1) rfl (by first | exact .inl rfl | exact .inr (.inl rfl) | exact .inr (.inr rfl)))) da_nil))) rfl))))), T.b_Count___eq__⟩
theorem md_Follows (T : Txt K mg base A) : Md P w K mg base fl 2 A.a_Follows___init__ A.d_Follows___init__ ["self", "ops"] m_Follows :=
 ⟨fnok_of T.F_Follows___init__ sc_Follows___init__ fun cdv A outer s H E hr => by
  have sc := sc_Follows___init__
  exact (dss_one (ds_fld T.fld_ops (de_var (i := 0) rfl (by first | exact .inl rfl | exact .inr (.inl rfl) | exact .inr (.inr rfl))) (de_call (fd_copied T) (hr.mono (by decide)) (takes_of rfl rfl rfl rfl) rfl (da_cons (de_var (i := 1) rfl (by first | exact .inl rfl | exact .inr (.inl rfl) | exact .inr (.inr rfl))) da_nil)))), T.b_Follows___init__⟩
theorem md_Follows___eq__ (T : Txt K mg base A) : Md P w K mg base fl 1 A.a_Follows___eq__ A.d_Follows___eq__ ["self", "other"] m_Follows___eq__ :=
 ⟨fnok_of T.F_Follows___eq__ sc_Follows___eq__ fun cdv A outer s H E hr => by
  have sc := sc_Follows___eq__
  exact (dss_one (ds_ret (de_and (de_isi rfl T.z_isinstance bb_isinstance (.own _) T.is_Follows (de_var (i := 1) rfl (by first | exact .inl rfl | exact .inr (.inl rfl) | exact .inr (.inr rfl))) (pe_glob rfl T.g_Follows rfl)) (de_one (de_cmp (op_eqD hr T.sys) v_eqD (de_fld T.fld_ops (de_var (i := 0) rfl (by first | exact .inl rfl | exact .inr (.inl rfl) | exact .inr (.inr rfl)))) (de_fld T.fld_ops (de_var (i := 1) rfl (by first | exact .inl rfl | exact .inr (.inl rfl) | exact .inr (.inr rfl)))) rfl))))), T.b_Follows___eq__⟩
theorem md_Breaks (T : Txt K mg base A) : Md P w K mg base fl 2 A.a_Breaks___init__ A.d_Breaks___init__ ["self", "point", "derivative"] m_Breaks :=
 ⟨fnok_of T.F_Breaks___init__ sc_Breaks___init__ fun cdv A outer s H E hr => by
  have sc := sc_Breaks___init__
  exact (dss_cons (ds_fld T.fld_point (de_var (i := 0) rfl (by first | exact .inl rfl | exact .inr (.inl rfl) | exact .inr (.inr rfl))) (de_call (fd_copied T) (hr.mono (by decide)) (takes_of rfl rfl rfl rfl) rfl (da_cons (de_var (i := 1) rfl (by first | exact .inl rfl | exact .inr (.inl rfl) | exact .inr (.inr rfl))) da_nil)))
 (dss_one (ds_fld T.fld_derivative (de_var (i := 0) rfl (by first | exact .inl rfl | exact .inr (.inl rfl) | exact .inr (.inr rfl))) (de_call (fd_copied T) (hr.mono (by decide)) (takes_of rfl rfl rfl rfl) rfl (da_cons (de_var (i := 2) rfl (by first | exact .inl rfl | exact .inr (.inl rfl) | exact .inr (.inr rfl))) da_nil))))), T.b_Breaks___init__⟩
theorem md_Breaks___eq__ (T : Txt K mg base A) : Md P w K mg base fl 1 A.a_Breaks___eq__ A.d_Breaks___eq__ ["self", "other"] m_Breaks___eq__ :=
 ⟨fnok_of T.F_Breaks___eq__ sc_Breaks___eq__ fun cdv A outer s H E hr => by
  have sc := sc_Breaks___eq__
  exact (dss_one (ds_ret (de_and (de_isi rfl T.z_isinstance bb_isinstance (.own _) T.is_Breaks (de_var (i := 1) rfl (by first | exact .inl rfl | exact .inr (.inl rfl) | exact .inr (.inr rfl))) (pe_glob rfl T.g_Breaks rfl)) (de_one (de_cmp (op_eqD hr T.sys) v_eqD (de_tup (da_cons (de_fld T.fld_point (de_var (i := 0) rfl (by first | exact .inl rfl | exact .inr (.inl rfl) | exact .inr (.inr rfl)))) (da_cons (de_fld T.fld_derivative (de_var (i := 0) rfl (by first | exact .inl rfl | exact .inr (.inl rfl) | exact .inr (.inr rfl)))) da_nil))) (de_tup (da_cons (de_fld T.fld_point (de_var (i := 1) rfl (by first | exact .inl rfl | exact .inr (.inl rfl) | exact .inr (.inr rfl)))) (da_cons (de_fld T.fld_derivative (de_var (i := 1) rfl (by first | exact .inl rfl | exact .inr (.inl rfl) | exact .inr (.inr rfl)))) da_nil))) rfl))))), T.b_Breaks___eq__⟩
theorem md_Series (T : Txt K mg base A) : Md P w K mg base fl 2 A.a_Series___init__ A.d_Series___init__ ["self", "row"] m_Series :=
 ⟨fnok_of T.F_Series___init__ sc_Series___init__ fun cdv A outer s H E hr => by
  have sc := sc_Series___init__
  exact (dss_one (ds_fld T.fld_row (de_var (i := 0) rfl (by first | exact .inl rfl | exact .inr (.inl rfl) | exact .inr (.inr rfl))) (de_call (fd_copied T) (hr.mono (by decide)) (takes_of rfl rfl rfl rfl) rfl (da_cons (de_var (i := 1) rfl (by first | exact .inl rfl | exact .inr (.inl rfl) | exact .inr (.inr rfl))) da_nil)))), T.b_Series___init__⟩
theorem md_Series___eq__ (T : Txt K mg base A) : Md P w K mg base fl 1 A.a_Series___eq__ A.d_Series___eq__ ["self", "other"] m_Series___eq__ :=
 ⟨fnok_of T.F_Series___eq__ sc_Series___eq__ fun cdv A outer s H E hr => by
  have sc := sc_Series___eq__
  exact (dss_one (ds_ret (de_and (de_isi rfl T.z_isinstance bb_isinstance (.own _) T.is_Series (de_var (i := 1) rfl (by first | exact .inl rfl | exact .inr (.inl rfl) | exact .inr (.inr rfl))) (pe_glob rfl T.g_Series rfl)) (de_one (de_cmp (op_eqD hr T.sys) v_eqD (de_fld T.fld_row (de_var (i := 0) rfl (by first | exact .inl rfl | exact .inr (.inl rfl) | exact .inr (.inr rfl)))) (de_fld T.fld_row (de_var (i := 1) rfl (by first | exact .inl rfl | exact .inr (.inl rfl) | exact .inr (.inr rfl)))) rfl))))), T.b_Series___eq__⟩
theorem md_NoSeries (T : Txt K mg base A) : Md P w K mg base fl 1 A.a_NoSeries___init__ A.d_NoSeries___init__ ["self", "what"] m_NoSeries :=
 ⟨fnok_of T.F_NoSeries___init__ sc_NoSeries___init__ fun cdv A outer s H E hr => by
  have sc := sc_NoSeries___init__
  exact (dss_one (ds_fld T.fld_what (de_var (i := 0) rfl (by first | exact .inl rfl | exact .inr (.inl rfl) | exact .inr (.inr rfl))) (de_var (i := 1) rfl (by first | exact .inl rfl | exact .inr (.inl rfl) | exact .inr (.inr rfl))))), T.b_NoSeries___init__⟩
theorem md_NoSeries___eq__ (T : Txt K mg base A) : Md P w K mg base fl 1 A.a_NoSeries___eq__ A.d_NoSeries___eq__ ["self", "other"] m_NoSeries___eq__ :=
 ⟨fnok_of T.F_NoSeries___eq__ sc_NoSeries___eq__ fun cdv A outer s H E hr => by
  have sc := sc_NoSeries___eq__
  exact (dss_one (ds_ret (de_and (de_isi rfl T.z_isinstance bb_isinstance (.own _) T.is_NoSeries (de_var (i := 1) rfl (by first | exact .inl rfl | exact .inr (.inl rfl) | exact .inr (.inr rfl))) (pe_glob rfl T.g_NoSeries rfl)) (de_one (de_cmp (op_eqD hr T.sys) v_eqD (de_fld T.fld_what (de_var (i := 0) rfl (by first | exact .inl rfl | exact .inr (.inl rfl) | exact .inr (.inr rfl)))) (de_fld T.fld_what (de_var (i := 1) rfl (by first | exact .inl rfl | exact .inr (.inl rfl) | exact .inr (.inr rfl)))) rfl))))), T.b_NoSeries___eq__⟩
theorem md_Model (T : Txt K mg base A) : Md P w K mg base fl 2 A.a_Model___init__ A.d_Model___init__ ["self", "letters", "unknowns", "kind", "told", "asks"] m_Model :=
 ⟨fnok_of T.F_Model___init__ sc_Model___init__ fun cdv A outer s H E hr => by
  have sc := sc_Model___init__
  exact (dss_cons (ds_fld T.fld_letters (de_var (i := 0) rfl (by first | exact .inl rfl | exact .inr (.inl rfl) | exact .inr (.inr rfl))) (de_call (fd_copied T) (hr.mono (by decide)) (takes_of rfl rfl rfl rfl) rfl (da_cons (de_var (i := 1) rfl (by first | exact .inl rfl | exact .inr (.inl rfl) | exact .inr (.inr rfl))) da_nil)))
 (dss_cons (ds_fld T.fld_unknowns (de_var (i := 0) rfl (by first | exact .inl rfl | exact .inr (.inl rfl) | exact .inr (.inr rfl))) (de_call (fd_copied T) (hr.mono (by decide)) (takes_of rfl rfl rfl rfl) rfl (da_cons (de_var (i := 2) rfl (by first | exact .inl rfl | exact .inr (.inl rfl) | exact .inr (.inr rfl))) da_nil)))
 (dss_cons (ds_fld T.fld_kind (de_var (i := 0) rfl (by first | exact .inl rfl | exact .inr (.inl rfl) | exact .inr (.inr rfl))) (de_var (i := 3) rfl (by first | exact .inl rfl | exact .inr (.inl rfl) | exact .inr (.inr rfl))))
 (dss_cons (ds_fld T.fld_told (de_var (i := 0) rfl (by first | exact .inl rfl | exact .inr (.inl rfl) | exact .inr (.inr rfl))) (de_call (fd_copied T) (hr.mono (by decide)) (takes_of rfl rfl rfl rfl) rfl (da_cons (de_var (i := 4) rfl (by first | exact .inl rfl | exact .inr (.inl rfl) | exact .inr (.inr rfl))) da_nil)))
 (dss_one (ds_fld T.fld_asks (de_var (i := 0) rfl (by first | exact .inl rfl | exact .inr (.inl rfl) | exact .inr (.inr rfl))) (de_call (fd_copied T) (hr.mono (by decide)) (takes_of rfl rfl rfl rfl) rfl (da_cons (de_var (i := 5) rfl (by first | exact .inl rfl | exact .inr (.inl rfl) | exact .inr (.inr rfl))) da_nil)))))))), T.b_Model___init__⟩
theorem fn_model_key (T : Txt K mg base A) : FnG P w K mg base 1 A.a_model_key A.d_model_key ["model"] (spD ⟨K, mg, fl⟩ 1 m_model_key) :=
 fnok_of T.F_model_key sc_model_key fun cdv A outer s H E hr => by
  have sc := sc_model_key
  exact (dss_one (ds_ret (de_tup (da_cons (de_fld T.fld_letters (de_var (i := 0) rfl (by first | exact .inl rfl | exact .inr (.inl rfl) | exact .inr (.inr rfl)))) (da_cons (de_fld T.fld_unknowns (de_var (i := 0) rfl (by first | exact .inl rfl | exact .inr (.inl rfl) | exact .inr (.inr rfl)))) (da_cons (de_fld T.fld_kind (de_var (i := 0) rfl (by first | exact .inl rfl | exact .inr (.inl rfl) | exact .inr (.inr rfl)))) (da_cons (de_fld T.fld_told (de_var (i := 0) rfl (by first | exact .inl rfl | exact .inr (.inl rfl) | exact .inr (.inr rfl)))) (da_cons (de_fld T.fld_asks (de_var (i := 0) rfl (by first | exact .inl rfl | exact .inr (.inl rfl) | exact .inr (.inr rfl)))) da_nil))))))))
theorem fd_model_key (T : Txt K mg base A) : Fd P w K mg base fl 1 "model_key" 1 m_model_key := ⟨⟨_, _, _, fn_model_key T, T.g_model_key, T.F_model_key.kp, T.b_model_key⟩⟩
theorem md_Model___eq__ (T : Txt K mg base A) : Md P w K mg base fl 2 A.a_Model___eq__ A.d_Model___eq__ ["self", "other"] m_Model___eq__ :=
 ⟨fnok_of T.F_Model___eq__ sc_Model___eq__ fun cdv A outer s H E hr => by
  have sc := sc_Model___eq__
  exact (dss_one (ds_ret (de_and (de_isi rfl T.z_isinstance bb_isinstance (.own _) T.is_Model (de_var (i := 1) rfl (by first | exact .inl rfl | exact .inr (.inl rfl) | exact .inr (.inr rfl))) (pe_glob rfl T.g_Model rfl)) (de_one (de_cmp (op_eqD hr T.sys) v_eqD (de_call (fd_model_key T) (hr.mono (by decide)) (takes_of rfl rfl rfl rfl) rfl (da_cons (de_var (i := 0) rfl (by first | exact .inl rfl | exact .inr (.inl rfl) | exact .inr (.inr rfl))) da_nil)) (de_call (fd_model_key T) (hr.mono (by decide)) (takes_of rfl rfl rfl rfl) rfl (da_cons (de_var (i := 1) rfl (by first | exact .inl rfl | exact .inr (.inl rfl) | exact .inr (.inr rfl))) da_nil)) rfl))))), T.b_Model___eq__⟩
theorem md_Paper (T : Txt K mg base A) : Md P w K mg base fl 2 A.a_Paper___init__ A.d_Paper___init__ ["self", "unless", "shares", "made", "back", "pairs", "asked"] m_Paper :=
 ⟨fnok_of T.F_Paper___init__ sc_Paper___init__ fun cdv A outer s H E hr => by
  have sc := sc_Paper___init__
  exact (dss_cons (ds_fld T.fld_unless (de_var (i := 0) rfl (by first | exact .inl rfl | exact .inr (.inl rfl) | exact .inr (.inr rfl))) (de_call (fd_copied T) (hr.mono (by decide)) (takes_of rfl rfl rfl rfl) rfl (da_cons (de_var (i := 1) rfl (by first | exact .inl rfl | exact .inr (.inl rfl) | exact .inr (.inr rfl))) da_nil)))
 (dss_cons (ds_fld T.fld_shares (de_var (i := 0) rfl (by first | exact .inl rfl | exact .inr (.inl rfl) | exact .inr (.inr rfl))) (de_call (fd_copied T) (hr.mono (by decide)) (takes_of rfl rfl rfl rfl) rfl (da_cons (de_var (i := 2) rfl (by first | exact .inl rfl | exact .inr (.inl rfl) | exact .inr (.inr rfl))) da_nil)))
 (dss_cons (ds_fld T.fld_made (de_var (i := 0) rfl (by first | exact .inl rfl | exact .inr (.inl rfl) | exact .inr (.inr rfl))) (de_call (fd_copied T) (hr.mono (by decide)) (takes_of rfl rfl rfl rfl) rfl (da_cons (de_var (i := 3) rfl (by first | exact .inl rfl | exact .inr (.inl rfl) | exact .inr (.inr rfl))) da_nil)))
 (dss_cons (ds_fld T.fld_back (de_var (i := 0) rfl (by first | exact .inl rfl | exact .inr (.inl rfl) | exact .inr (.inr rfl))) (de_call (fd_copied T) (hr.mono (by decide)) (takes_of rfl rfl rfl rfl) rfl (da_cons (de_var (i := 4) rfl (by first | exact .inl rfl | exact .inr (.inl rfl) | exact .inr (.inr rfl))) da_nil)))
 (dss_cons (ds_fld T.fld_pairs (de_var (i := 0) rfl (by first | exact .inl rfl | exact .inr (.inl rfl) | exact .inr (.inr rfl))) (de_call (fd_copied T) (hr.mono (by decide)) (takes_of rfl rfl rfl rfl) rfl (da_cons (de_var (i := 5) rfl (by first | exact .inl rfl | exact .inr (.inl rfl) | exact .inr (.inr rfl))) da_nil)))
 (dss_one (ds_fld T.fld_asked (de_var (i := 0) rfl (by first | exact .inl rfl | exact .inr (.inl rfl) | exact .inr (.inr rfl))) (de_call (fd_copied T) (hr.mono (by decide)) (takes_of rfl rfl rfl rfl) rfl (da_cons (de_var (i := 6) rfl (by first | exact .inl rfl | exact .inr (.inl rfl) | exact .inr (.inr rfl))) da_nil))))))))), T.b_Paper___init__⟩
theorem fn_paper_key (T : Txt K mg base A) : FnG P w K mg base 1 A.a_paper_key A.d_paper_key ["paper"] (spD ⟨K, mg, fl⟩ 1 m_paper_key) :=
 fnok_of T.F_paper_key sc_paper_key fun cdv A outer s H E hr => by
  have sc := sc_paper_key
  exact (dss_one (ds_ret (de_tup (da_cons (de_fld T.fld_unless (de_var (i := 0) rfl (by first | exact .inl rfl | exact .inr (.inl rfl) | exact .inr (.inr rfl)))) (da_cons (de_fld T.fld_shares (de_var (i := 0) rfl (by first | exact .inl rfl | exact .inr (.inl rfl) | exact .inr (.inr rfl)))) (da_cons (de_fld T.fld_made (de_var (i := 0) rfl (by first | exact .inl rfl | exact .inr (.inl rfl) | exact .inr (.inr rfl)))) (da_cons (de_fld T.fld_back (de_var (i := 0) rfl (by first | exact .inl rfl | exact .inr (.inl rfl) | exact .inr (.inr rfl)))) (da_cons (de_fld T.fld_pairs (de_var (i := 0) rfl (by first | exact .inl rfl | exact .inr (.inl rfl) | exact .inr (.inr rfl)))) (da_cons (de_fld T.fld_asked (de_var (i := 0) rfl (by first | exact .inl rfl | exact .inr (.inl rfl) | exact .inr (.inr rfl)))) da_nil)))))))))
theorem fd_paper_key (T : Txt K mg base A) : Fd P w K mg base fl 1 "paper_key" 1 m_paper_key := ⟨⟨_, _, _, fn_paper_key T, T.g_paper_key, T.F_paper_key.kp, T.b_paper_key⟩⟩
theorem md_Paper___eq__ (T : Txt K mg base A) : Md P w K mg base fl 2 A.a_Paper___eq__ A.d_Paper___eq__ ["self", "other"] m_Paper___eq__ :=
 ⟨fnok_of T.F_Paper___eq__ sc_Paper___eq__ fun cdv A outer s H E hr => by
  have sc := sc_Paper___eq__
  exact (dss_one (ds_ret (de_and (de_isi rfl T.z_isinstance bb_isinstance (.own _) T.is_Paper (de_var (i := 1) rfl (by first | exact .inl rfl | exact .inr (.inl rfl) | exact .inr (.inr rfl))) (pe_glob rfl T.g_Paper rfl)) (de_one (de_cmp (op_eqD hr T.sys) v_eqD (de_call (fd_paper_key T) (hr.mono (by decide)) (takes_of rfl rfl rfl rfl) rfl (da_cons (de_var (i := 0) rfl (by first | exact .inl rfl | exact .inr (.inl rfl) | exact .inr (.inr rfl))) da_nil)) (de_call (fd_paper_key T) (hr.mono (by decide)) (takes_of rfl rfl rfl rfl) rfl (da_cons (de_var (i := 1) rfl (by first | exact .inl rfl | exact .inr (.inl rfl) | exact .inr (.inr rfl))) da_nil)) rfl))))), T.b_Paper___eq__⟩
theorem own_eq (T : Txt K mg base A) : OwnOkR P w K mg base fl .Eq 2 tblEq cs := ownOk_by fun c m hm => by
  unfold tblEq at hm
  by_cases h : c = "Count"
  · rw [if_pos h] at hm
    cases hm
    exact ⟨A.C_Count, A.a_Count___eq__, A.d_Count___eq__, _, 1, by rw [h]; exact T.g_Count, T.fi_Count___eq__, T.fn_Count___eq__, rfl, md_Count___eq__ T, by decide, T.nf_Count⟩
  rw [if_neg h] at hm
  clear h
  by_cases h : c = "Follows"
  · rw [if_pos h] at hm
    cases hm
    exact ⟨A.C_Follows, A.a_Follows___eq__, A.d_Follows___eq__, _, 1, by rw [h]; exact T.g_Follows, T.fi_Follows___eq__, T.fn_Follows___eq__, rfl, md_Follows___eq__ T, by decide, T.nf_Follows⟩
  rw [if_neg h] at hm
  clear h
  by_cases h : c = "Breaks"
  · rw [if_pos h] at hm
    cases hm
    exact ⟨A.C_Breaks, A.a_Breaks___eq__, A.d_Breaks___eq__, _, 1, by rw [h]; exact T.g_Breaks, T.fi_Breaks___eq__, T.fn_Breaks___eq__, rfl, md_Breaks___eq__ T, by decide, T.nf_Breaks⟩
  rw [if_neg h] at hm
  clear h
  by_cases h : c = "Series"
  · rw [if_pos h] at hm
    cases hm
    exact ⟨A.C_Series, A.a_Series___eq__, A.d_Series___eq__, _, 1, by rw [h]; exact T.g_Series, T.fi_Series___eq__, T.fn_Series___eq__, rfl, md_Series___eq__ T, by decide, T.nf_Series⟩
  rw [if_neg h] at hm
  clear h
  by_cases h : c = "NoSeries"
  · rw [if_pos h] at hm
    cases hm
    exact ⟨A.C_NoSeries, A.a_NoSeries___eq__, A.d_NoSeries___eq__, _, 1, by rw [h]; exact T.g_NoSeries, T.fi_NoSeries___eq__, T.fn_NoSeries___eq__, rfl, md_NoSeries___eq__ T, by decide, T.nf_NoSeries⟩
  rw [if_neg h] at hm
  clear h
  by_cases h : c = "Model"
  · rw [if_pos h] at hm
    cases hm
    exact ⟨A.C_Model, A.a_Model___eq__, A.d_Model___eq__, _, 2, by rw [h]; exact T.g_Model, T.fi_Model___eq__, T.fn_Model___eq__, rfl, md_Model___eq__ T, by decide, T.nf_Model⟩
  rw [if_neg h] at hm
  clear h
  by_cases h : c = "Paper"
  · rw [if_pos h] at hm
    cases hm
    exact ⟨A.C_Paper, A.a_Paper___eq__, A.d_Paper___eq__, _, 2, by rw [h]; exact T.g_Paper, T.fi_Paper___eq__, T.fn_Paper___eq__, rfl, md_Paper___eq__ T, by decide, T.nf_Paper⟩
  rw [if_neg h] at hm
  clear h
  cases hm
theorem md_Count___ne__ (T : Txt K mg base A) : Md P w K mg base fl 3 A.a_Count___ne__ A.d_Count___ne__ ["self", "other"] m_Count___ne__ :=
 ⟨fnok_of T.F_Count___ne__ sc_Count___ne__ fun cdv A outer s H E hr => by
  have sc := sc_Count___ne__
  exact (dss_one (ds_ret (de_not (de_own (op_eqD hr T.sys) rfl v_eqD (hr.mono (by decide)) (own_eq T) (de_var (i := 0) rfl (by first | exact .inl rfl | exact .inr (.inl rfl) | exact .inr (.inr rfl))) (de_var (i := 1) rfl (by first | exact .inl rfl | exact .inr (.inl rfl) | exact .inr (.inr rfl))) rfl)))), T.b_Count___ne__⟩
theorem md_Follows___ne__ (T : Txt K mg base A) : Md P w K mg base fl 3 A.a_Follows___ne__ A.d_Follows___ne__ ["self", "other"] m_Follows___ne__ :=
 ⟨fnok_of T.F_Follows___ne__ sc_Follows___ne__ fun cdv A outer s H E hr => by
  have sc := sc_Follows___ne__
  exact (dss_one (ds_ret (de_not (de_own (op_eqD hr T.sys) rfl v_eqD (hr.mono (by decide)) (own_eq T) (de_var (i := 0) rfl (by first | exact .inl rfl | exact .inr (.inl rfl) | exact .inr (.inr rfl))) (de_var (i := 1) rfl (by first | exact .inl rfl | exact .inr (.inl rfl) | exact .inr (.inr rfl))) rfl)))), T.b_Follows___ne__⟩
theorem md_Breaks___ne__ (T : Txt K mg base A) : Md P w K mg base fl 3 A.a_Breaks___ne__ A.d_Breaks___ne__ ["self", "other"] m_Breaks___ne__ :=
 ⟨fnok_of T.F_Breaks___ne__ sc_Breaks___ne__ fun cdv A outer s H E hr => by
  have sc := sc_Breaks___ne__
  exact (dss_one (ds_ret (de_not (de_own (op_eqD hr T.sys) rfl v_eqD (hr.mono (by decide)) (own_eq T) (de_var (i := 0) rfl (by first | exact .inl rfl | exact .inr (.inl rfl) | exact .inr (.inr rfl))) (de_var (i := 1) rfl (by first | exact .inl rfl | exact .inr (.inl rfl) | exact .inr (.inr rfl))) rfl)))), T.b_Breaks___ne__⟩
theorem md_Series___ne__ (T : Txt K mg base A) : Md P w K mg base fl 3 A.a_Series___ne__ A.d_Series___ne__ ["self", "other"] m_Series___ne__ :=
 ⟨fnok_of T.F_Series___ne__ sc_Series___ne__ fun cdv A outer s H E hr => by
  have sc := sc_Series___ne__
  exact (dss_one (ds_ret (de_not (de_own (op_eqD hr T.sys) rfl v_eqD (hr.mono (by decide)) (own_eq T) (de_var (i := 0) rfl (by first | exact .inl rfl | exact .inr (.inl rfl) | exact .inr (.inr rfl))) (de_var (i := 1) rfl (by first | exact .inl rfl | exact .inr (.inl rfl) | exact .inr (.inr rfl))) rfl)))), T.b_Series___ne__⟩
theorem md_NoSeries___ne__ (T : Txt K mg base A) : Md P w K mg base fl 3 A.a_NoSeries___ne__ A.d_NoSeries___ne__ ["self", "other"] m_NoSeries___ne__ :=
 ⟨fnok_of T.F_NoSeries___ne__ sc_NoSeries___ne__ fun cdv A outer s H E hr => by
  have sc := sc_NoSeries___ne__
  exact (dss_one (ds_ret (de_not (de_own (op_eqD hr T.sys) rfl v_eqD (hr.mono (by decide)) (own_eq T) (de_var (i := 0) rfl (by first | exact .inl rfl | exact .inr (.inl rfl) | exact .inr (.inr rfl))) (de_var (i := 1) rfl (by first | exact .inl rfl | exact .inr (.inl rfl) | exact .inr (.inr rfl))) rfl)))), T.b_NoSeries___ne__⟩
theorem md_Model___ne__ (T : Txt K mg base A) : Md P w K mg base fl 3 A.a_Model___ne__ A.d_Model___ne__ ["self", "other"] m_Model___ne__ :=
 ⟨fnok_of T.F_Model___ne__ sc_Model___ne__ fun cdv A outer s H E hr => by
  have sc := sc_Model___ne__
  exact (dss_one (ds_ret (de_not (de_own (op_eqD hr T.sys) rfl v_eqD (hr.mono (by decide)) (own_eq T) (de_var (i := 0) rfl (by first | exact .inl rfl | exact .inr (.inl rfl) | exact .inr (.inr rfl))) (de_var (i := 1) rfl (by first | exact .inl rfl | exact .inr (.inl rfl) | exact .inr (.inr rfl))) rfl)))), T.b_Model___ne__⟩
theorem md_Paper___ne__ (T : Txt K mg base A) : Md P w K mg base fl 3 A.a_Paper___ne__ A.d_Paper___ne__ ["self", "other"] m_Paper___ne__ :=
 ⟨fnok_of T.F_Paper___ne__ sc_Paper___ne__ fun cdv A outer s H E hr => by
  have sc := sc_Paper___ne__
  exact (dss_one (ds_ret (de_not (de_own (op_eqD hr T.sys) rfl v_eqD (hr.mono (by decide)) (own_eq T) (de_var (i := 0) rfl (by first | exact .inl rfl | exact .inr (.inl rfl) | exact .inr (.inr rfl))) (de_var (i := 1) rfl (by first | exact .inl rfl | exact .inr (.inl rfl) | exact .inr (.inr rfl))) rfl)))), T.b_Paper___ne__⟩
theorem own_ne (T : Txt K mg base A) : OwnOkR P w K mg base fl .NotEq 3 tblNe cs := ownOk_by fun c m hm => by
  unfold tblNe at hm
  by_cases h : c = "Count"
  · rw [if_pos h] at hm
    cases hm
    exact ⟨A.C_Count, A.a_Count___ne__, A.d_Count___ne__, _, 3, by rw [h]; exact T.g_Count, T.fi_Count___ne__, T.fn_Count___ne__, rfl, md_Count___ne__ T, by decide, T.nf_Count⟩
  rw [if_neg h] at hm
  clear h
  by_cases h : c = "Follows"
  · rw [if_pos h] at hm
    cases hm
    exact ⟨A.C_Follows, A.a_Follows___ne__, A.d_Follows___ne__, _, 3, by rw [h]; exact T.g_Follows, T.fi_Follows___ne__, T.fn_Follows___ne__, rfl, md_Follows___ne__ T, by decide, T.nf_Follows⟩
  rw [if_neg h] at hm
  clear h
  by_cases h : c = "Breaks"
  · rw [if_pos h] at hm
    cases hm
    exact ⟨A.C_Breaks, A.a_Breaks___ne__, A.d_Breaks___ne__, _, 3, by rw [h]; exact T.g_Breaks, T.fi_Breaks___ne__, T.fn_Breaks___ne__, rfl, md_Breaks___ne__ T, by decide, T.nf_Breaks⟩
  rw [if_neg h] at hm
  clear h
  by_cases h : c = "Series"
  · rw [if_pos h] at hm
    cases hm
    exact ⟨A.C_Series, A.a_Series___ne__, A.d_Series___ne__, _, 3, by rw [h]; exact T.g_Series, T.fi_Series___ne__, T.fn_Series___ne__, rfl, md_Series___ne__ T, by decide, T.nf_Series⟩
  rw [if_neg h] at hm
  clear h
  by_cases h : c = "NoSeries"
  · rw [if_pos h] at hm
    cases hm
    exact ⟨A.C_NoSeries, A.a_NoSeries___ne__, A.d_NoSeries___ne__, _, 3, by rw [h]; exact T.g_NoSeries, T.fi_NoSeries___ne__, T.fn_NoSeries___ne__, rfl, md_NoSeries___ne__ T, by decide, T.nf_NoSeries⟩
  rw [if_neg h] at hm
  clear h
  by_cases h : c = "Model"
  · rw [if_pos h] at hm
    cases hm
    exact ⟨A.C_Model, A.a_Model___ne__, A.d_Model___ne__, _, 3, by rw [h]; exact T.g_Model, T.fi_Model___ne__, T.fn_Model___ne__, rfl, md_Model___ne__ T, by decide, T.nf_Model⟩
  rw [if_neg h] at hm
  clear h
  by_cases h : c = "Paper"
  · rw [if_pos h] at hm
    cases hm
    exact ⟨A.C_Paper, A.a_Paper___ne__, A.d_Paper___ne__, _, 3, by rw [h]; exact T.g_Paper, T.fi_Paper___ne__, T.fn_Paper___ne__, rfl, md_Paper___ne__ T, by decide, T.nf_Paper⟩
  rw [if_neg h] at hm
  clear h
  cases hm
theorem fn__law_pen (T : Txt K mg base A) : FnG P w K mg base 1 A.a__law_pen A.d__law_pen ["script"] (spD ⟨K, mg, fl⟩ 1 m__law_pen) :=
 fnok_of T.F__law_pen sc__law_pen fun cdv A outer s H E hr => by
  have sc := sc__law_pen
  exact (dss_cons (ds_set (i := 1) sc.nd rfl (by first | exact .inl rfl | exact .inr rfl) de_int)
 (dss_cons (ds_for PassesOwn.leaving rfl (di_scr (de_var (i := 0) rfl (by first | exact .inl rfl | exact .inr (.inl rfl) | exact .inr (.inr rfl)))) (dg_name (vs := [2]) (i := 2) sc.nd rfl (by first | exact .inl rfl | exact .inr rfl) (by decide))
 (dss_one (ds_set (i := 1) sc.nd rfl (by first | exact .inl rfl | exact .inr rfl) (de_op op_modN v_mod (de_ty call_int1 v_int1 rfl T.z_int bb_int (da_cons (de_op op_plus v_plus (de_op op_mul v_mul (de_var (i := 1) rfl (by first | exact .inl rfl | exact .inr (.inl rfl) | exact .inr (.inr rfl))) de_int) (de_var (i := 2) rfl (by first | exact .inl rfl | exact .inr (.inl rfl) | exact .inr (.inr rfl)))) da_nil)) de_int))))
 (dss_one (ds_ret (de_disp (.cons (de_ty call_list_of v_listS rfl T.z_list bb_list (da_cons (de_var (i := 0) rfl (by first | exact .inl rfl | exact .inr (.inl rfl) | exact .inr (.inr rfl))) da_nil)) (.cons de_int (.cons de_int (.cons de_int (.cons (de_var (i := 1) rfl (by first | exact .inl rfl | exact .inr (.inl rfl) | exact .inr (.inr rfl))) .nil))))) (fun z => by cases z) (by show (_ : Nat) ≤ _; decide))))))
theorem fd__law_pen (T : Txt K mg base A) : Fd P w K mg base fl 1 "_law_pen" 1 m__law_pen := ⟨⟨_, _, _, fn__law_pen T, T.g__law_pen, T.F__law_pen.kp, T.b__law_pen⟩⟩
theorem fn__law_draw (T : Txt K mg base A) : FnG P w K mg base 1 A.a__law_draw A.d__law_draw ["pen", "many"] (spD ⟨K, mg, fl⟩ 2 m__law_draw) :=
 fnok_of T.F__law_draw sc__law_draw fun cdv A outer s H E hr => by
  have sc := sc__law_draw
  exact (dss_cons (ds_dput hr (de_var (i := 0) rfl (by first | exact .inl rfl | exact .inr (.inl rfl) | exact .inr (.inr rfl))) de_str (de_op op_plus v_plus (de_dget hr (de_var (i := 0) rfl (by first | exact .inl rfl | exact .inr (.inl rfl) | exact .inr (.inr rfl))) de_str (fun _ _ => rfl)) de_int) (by rfl))
 (dss_cons (ds_if (dt_w (dw_and (dt_cmp (op_eqD hr T.sys) v_eqD (de_dget hr (de_var (i := 0) rfl (by first | exact .inl rfl | exact .inr (.inl rfl) | exact .inr (.inr rfl))) de_str (fun _ _ => rfl)) de_int rfl) (dw_and1 (dt_cmp op_lt v_cmp (de_dget hr (de_var (i := 0) rfl (by first | exact .inl rfl | exact .inr (.inl rfl) | exact .inr (.inr rfl))) de_str (fun _ _ => rfl)) (de_b call_lenA v_len rfl T.z_len bb_len (da_cons (de_dget hr (de_var (i := 0) rfl (by first | exact .inl rfl | exact .inr (.inl rfl) | exact .inr (.inr rfl))) de_str (fun _ _ => rfl)) da_nil)) rfl))))
 (dss_cons (ds_set (i := 2) sc.nd rfl (by first | exact .inl rfl | exact .inr rfl) (de_item (de_dget hr (de_var (i := 0) rfl (by first | exact .inl rfl | exact .inr (.inl rfl) | exact .inr (.inr rfl))) de_str (fun _ _ => rfl)) (de_dget hr (de_var (i := 0) rfl (by first | exact .inl rfl | exact .inr (.inl rfl) | exact .inr (.inr rfl))) de_str (fun _ _ => rfl)) (fun _ _ => rfl)))
 (dss_cons (ds_dput hr (de_var (i := 0) rfl (by first | exact .inl rfl | exact .inr (.inl rfl) | exact .inr (.inr rfl))) de_str (de_op op_plus v_plus (de_dget hr (de_var (i := 0) rfl (by first | exact .inl rfl | exact .inr (.inl rfl) | exact .inr (.inr rfl))) de_str (fun _ _ => rfl)) de_int) (by rfl))
 (dss_one (ds_if (dt_cmp op_ge v_cmp (de_var (i := 2) rfl (by first | exact .inl rfl | exact .inr (.inl rfl) | exact .inr (.inr rfl))) (de_op op_pow v_pow de_int de_int) rfl)
 (dss_one (ds_dput hr (de_var (i := 0) rfl (by first | exact .inl rfl | exact .inr (.inl rfl) | exact .inr (.inr rfl))) de_str (de_op op_sub v_sub (de_var (i := 2) rfl (by first | exact .inl rfl | exact .inr (.inl rfl) | exact .inr (.inr rfl))) (de_op op_pow v_pow de_int de_int)) (by rfl)))
 (dss_one (ds_dput hr (de_var (i := 0) rfl (by first | exact .inl rfl | exact .inr (.inl rfl) | exact .inr (.inr rfl))) de_str (de_op op_modN v_mod (de_ty call_int1 v_int1 rfl T.z_int bb_int (da_cons (de_op op_plus v_plus (de_op op_mul v_mul (de_dget hr (de_var (i := 0) rfl (by first | exact .inl rfl | exact .inr (.inl rfl) | exact .inr (.inr rfl))) de_str (fun _ _ => rfl)) de_int) (de_var (i := 2) rfl (by first | exact .inl rfl | exact .inr (.inl rfl) | exact .inr (.inr rfl)))) da_nil)) de_int) (by rfl)))))))
 dss_nil)
 (dss_cons (ds_if (dt_cmp op_gt v_cmp (de_dget hr (de_var (i := 0) rfl (by first | exact .inl rfl | exact .inr (.inl rfl) | exact .inr (.inr rfl))) de_str (fun _ _ => rfl)) de_int rfl)
 (dss_cons (ds_set (i := 3) sc.nd rfl (by first | exact .inl rfl | exact .inr rfl) (de_op op_modN v_mod (de_ty call_int1 v_int1 rfl T.z_int bb_int (da_cons (de_dget hr (de_var (i := 0) rfl (by first | exact .inl rfl | exact .inr (.inl rfl) | exact .inr (.inr rfl))) de_str (fun _ _ => rfl)) da_nil)) (de_var (i := 1) rfl (by first | exact .inl rfl | exact .inr (.inl rfl) | exact .inr (.inr rfl)))))
 (dss_cons (ds_dput hr (de_var (i := 0) rfl (by first | exact .inl rfl | exact .inr (.inl rfl) | exact .inr (.inr rfl))) de_str (de_op op_fdivN v_fdiv (de_dget hr (de_var (i := 0) rfl (by first | exact .inl rfl | exact .inr (.inl rfl) | exact .inr (.inr rfl))) de_str (fun _ _ => rfl)) (de_var (i := 1) rfl (by first | exact .inl rfl | exact .inr (.inl rfl) | exact .inr (.inr rfl)))) (by rfl))
 (dss_one (ds_ret (de_var (i := 3) rfl (by first | exact .inl rfl | exact .inr (.inl rfl) | exact .inr (.inr rfl)))))))
 dss_nil)
 (dss_cons (ds_set (i := 4) sc.nd rfl (by first | exact .inl rfl | exact .inr rfl) (de_op op_plus v_plus (de_op op_plus v_plus (de_dget hr (de_var (i := 0) rfl (by first | exact .inl rfl | exact .inr (.inl rfl) | exact .inr (.inr rfl))) de_str (fun _ _ => rfl)) (de_op op_mul v_mul (de_dget hr (de_var (i := 0) rfl (by first | exact .inl rfl | exact .inr (.inl rfl) | exact .inr (.inr rfl))) de_str (fun _ _ => rfl)) de_int)) de_int))
 (dss_one (ds_ret (de_op op_modN v_mod (de_op op_fdivN v_fdiv (de_ty call_int1 v_int1 rfl T.z_int bb_int (da_cons (de_op op_modN v_mod (de_op op_pow v_pow (de_var (i := 4) rfl (by first | exact .inl rfl | exact .inr (.inl rfl) | exact .inr (.inr rfl))) de_int) de_int) da_nil)) de_int) (de_var (i := 1) rfl (by first | exact .inl rfl | exact .inr (.inl rfl) | exact .inr (.inr rfl))))))))))
theorem fd__law_draw (T : Txt K mg base A) : Fd P w K mg base fl 1 "_law_draw" 2 m__law_draw := ⟨⟨_, _, _, fn__law_draw T, T.g__law_draw, T.F__law_draw.kp, T.b__law_draw⟩⟩
theorem fn__law_pick (T : Txt K mg base A) : FnG P w K mg base 2 A.a__law_pick A.d__law_pick ["pen", "some"] (spD ⟨K, mg, fl⟩ 2 m__law_pick) :=
 fnok_of T.F__law_pick sc__law_pick fun cdv A outer s H E hr => by
  have sc := sc__law_pick
  exact (dss_one (ds_ret (de_item (de_var (i := 1) rfl (by first | exact .inl rfl | exact .inr (.inl rfl) | exact .inr (.inr rfl))) (de_call (fd__law_draw T) (hr.mono (by decide)) (takes_of rfl rfl rfl rfl) rfl (da_cons (de_var (i := 0) rfl (by first | exact .inl rfl | exact .inr (.inl rfl) | exact .inr (.inr rfl))) (da_cons (de_b call_lenA v_len rfl T.z_len bb_len (da_cons (de_var (i := 1) rfl (by first | exact .inl rfl | exact .inr (.inl rfl) | exact .inr (.inr rfl))) da_nil)) da_nil))) (fun _ _ => rfl))))
theorem fd__law_pick (T : Txt K mg base A) : Fd P w K mg base fl 2 "_law_pick" 2 m__law_pick := ⟨⟨_, _, _, fn__law_pick T, T.g__law_pick, T.F__law_pick.kp, T.b__law_pick⟩⟩
theorem fn__law_value (T : Txt K mg base A) : FnG P w K mg base 3 A.a__law_value A.d__law_value ["pen"] (spD ⟨K, mg, fl⟩ 1 m__law_value) :=
 fnok_of T.F__law_value sc__law_value fun cdv A outer s H E hr => by
  have sc := sc__law_value
  exact (dss_cons (ds_set (i := 1) sc.nd rfl (by first | exact .inl rfl | exact .inr rfl) (de_lst (da_cons (de_tup (da_cons de_int (da_cons de_int da_nil))) (da_cons (de_lst (da_cons de_int (da_cons (de_lst (da_cons de_int da_nil)) da_nil))) (da_cons (de_lst da_nil) (da_cons (de_tup da_nil) (da_cons de_str (da_cons de_int (da_cons de_non (da_cons de_bl (da_cons (de_tup (da_cons (de_tup (da_cons de_int (da_cons de_int da_nil))) da_nil)) (da_cons (de_lst (da_cons (de_lst (da_cons de_int da_nil)) (da_cons (de_lst (da_cons de_int da_nil)) da_nil))) (da_cons (de_disp (.cons de_int .nil) (fun z => by cases z) (by show (_ : Nat) ≤ _; decide)) (da_cons (de_un un_neg v_neg de_int) (da_cons de_str (da_cons (de_lst (da_cons de_non da_nil)) da_nil))))))))))))))))
 (dss_one (ds_ret (de_call (fd__law_pick T) (hr.mono (by decide)) (takes_of rfl rfl rfl rfl) rfl (da_cons (de_var (i := 0) rfl (by first | exact .inl rfl | exact .inr (.inl rfl) | exact .inr (.inr rfl))) (da_cons (de_op op_plus v_plus (de_var (i := 1) rfl (by first | exact .inl rfl | exact .inr (.inl rfl) | exact .inr (.inr rfl))) (de_lst (da_cons (de_lc rfl sc.nd (di_range1 rfl T.z_range de_int) (blkOk_by (own := [("k", 2)]) rfl) rfl (fun _ _ _ _ _ => (dg_name (vs := [2]) (i := 2) sc.nd rfl (by first | exact .inl rfl | exact .inr rfl) (by decide))) (fun _ _ _ _ _ => dts_nil) (fun _ _ _ _ _ => (de_call (fd__law_draw T) (hr.mono (by decide)) takes0 rfl (da_cons (de_var (i := 0) rfl (by first | exact .inl rfl | exact .inr (.inl rfl) | exact .inr (.inr rfl))) (da_cons de_int da_nil))))) da_nil))) da_nil))))))
theorem fd__law_value (T : Txt K mg base A) : Fd P w K mg base fl 3 "_law_value" 1 m__law_value := ⟨⟨_, _, _, fn__law_value T, T.g__law_value, T.F__law_value.kp, T.b__law_value⟩⟩
theorem fn__law_copy (T : Txt K mg base A) : FnG P w K mg base 1 A.a__law_copy A.d__law_copy ["value"] (spD ⟨K, mg, fl⟩ 1 m__law_copy) :=
 fnok_of T.F__law_copy sc__law_copy fun cdv A outer s H E hr => by
  have sc := sc__law_copy
  exact (dss_one (ds_ret (de_if (dt_val (de_isi rfl T.z_isinstance bb_isinstance (.ty _) (isi_ok_list T) (de_var (i := 0) rfl (by first | exact .inl rfl | exact .inr (.inl rfl) | exact .inr (.inr rfl))) (pe_bltn rfl T.z_list bb_list rfl))) (de_ty call_tuple_of v_tuple rfl T.z_tuple bb_tuple (da_cons (de_var (i := 0) rfl (by first | exact .inl rfl | exact .inr (.inl rfl) | exact .inr (.inr rfl))) da_nil)) (de_var (i := 0) rfl (by first | exact .inl rfl | exact .inr (.inl rfl) | exact .inr (.inr rfl))))))
theorem fd__law_copy (T : Txt K mg base A) : Fd P w K mg base fl 1 "_law_copy" 1 m__law_copy := ⟨⟨_, _, _, fn__law_copy T, T.g__law_copy, T.F__law_copy.kp, T.b__law_copy⟩⟩
theorem fn__law_fields (T : Txt K mg base A) : FnG P w K mg base 1 A.a__law_fields A.d__law_fields ["one"] (spD ⟨K, mg, fl⟩ 1 m__law_fields) :=
 fnok_of T.F__law_fields sc__law_fields fun cdv A outer s H E hr => by
  have sc := sc__law_fields
  exact (dss_cons (ds_if (dt_val (de_isi rfl T.z_isinstance bb_isinstance (.own _) T.is_Count (de_var (i := 0) rfl (by first | exact .inl rfl | exact .inr (.inl rfl) | exact .inr (.inr rfl))) (pe_glob rfl T.g_Count rfl)))
 (dss_one (ds_ret (de_lst (da_cons de_str (da_cons (de_fld T.fld_first (de_var (i := 0) rfl (by first | exact .inl rfl | exact .inr (.inl rfl) | exact .inr (.inr rfl)))) (da_cons (de_fld T.fld_row (de_var (i := 0) rfl (by first | exact .inl rfl | exact .inr (.inl rfl) | exact .inr (.inr rfl)))) da_nil))))))
 dss_nil)
 (dss_cons (ds_if (dt_val (de_isi rfl T.z_isinstance bb_isinstance (.own _) T.is_Follows (de_var (i := 0) rfl (by first | exact .inl rfl | exact .inr (.inl rfl) | exact .inr (.inr rfl))) (pe_glob rfl T.g_Follows rfl)))
 (dss_one (ds_ret (de_lst (da_cons de_str (da_cons (de_fld T.fld_ops (de_var (i := 0) rfl (by first | exact .inl rfl | exact .inr (.inl rfl) | exact .inr (.inr rfl)))) da_nil)))))
 dss_nil)
 (dss_cons (ds_if (dt_val (de_isi rfl T.z_isinstance bb_isinstance (.own _) T.is_Breaks (de_var (i := 0) rfl (by first | exact .inl rfl | exact .inr (.inl rfl) | exact .inr (.inr rfl))) (pe_glob rfl T.g_Breaks rfl)))
 (dss_one (ds_ret (de_lst (da_cons de_str (da_cons (de_fld T.fld_point (de_var (i := 0) rfl (by first | exact .inl rfl | exact .inr (.inl rfl) | exact .inr (.inr rfl)))) (da_cons (de_fld T.fld_derivative (de_var (i := 0) rfl (by first | exact .inl rfl | exact .inr (.inl rfl) | exact .inr (.inr rfl)))) da_nil))))))
 dss_nil)
 (dss_cons (ds_if (dt_val (de_isi rfl T.z_isinstance bb_isinstance (.own _) T.is_Series (de_var (i := 0) rfl (by first | exact .inl rfl | exact .inr (.inl rfl) | exact .inr (.inr rfl))) (pe_glob rfl T.g_Series rfl)))
 (dss_one (ds_ret (de_lst (da_cons de_str (da_cons (de_fld T.fld_row (de_var (i := 0) rfl (by first | exact .inl rfl | exact .inr (.inl rfl) | exact .inr (.inr rfl)))) da_nil)))))
 dss_nil)
 (dss_cons (ds_if (dt_val (de_isi rfl T.z_isinstance bb_isinstance (.own _) T.is_NoSeries (de_var (i := 0) rfl (by first | exact .inl rfl | exact .inr (.inl rfl) | exact .inr (.inr rfl))) (pe_glob rfl T.g_NoSeries rfl)))
 (dss_one (ds_ret (de_lst (da_cons de_str (da_cons (de_fld T.fld_what (de_var (i := 0) rfl (by first | exact .inl rfl | exact .inr (.inl rfl) | exact .inr (.inr rfl)))) da_nil)))))
 dss_nil)
 (dss_cons (ds_if (dt_val (de_isi rfl T.z_isinstance bb_isinstance (.own _) T.is_Model (de_var (i := 0) rfl (by first | exact .inl rfl | exact .inr (.inl rfl) | exact .inr (.inr rfl))) (pe_glob rfl T.g_Model rfl)))
 (dss_one (ds_ret (de_lst (da_cons de_str (da_cons (de_fld T.fld_letters (de_var (i := 0) rfl (by first | exact .inl rfl | exact .inr (.inl rfl) | exact .inr (.inr rfl)))) (da_cons (de_fld T.fld_unknowns (de_var (i := 0) rfl (by first | exact .inl rfl | exact .inr (.inl rfl) | exact .inr (.inr rfl)))) (da_cons (de_fld T.fld_kind (de_var (i := 0) rfl (by first | exact .inl rfl | exact .inr (.inl rfl) | exact .inr (.inr rfl)))) (da_cons (de_fld T.fld_told (de_var (i := 0) rfl (by first | exact .inl rfl | exact .inr (.inl rfl) | exact .inr (.inr rfl)))) (da_cons (de_fld T.fld_asks (de_var (i := 0) rfl (by first | exact .inl rfl | exact .inr (.inl rfl) | exact .inr (.inr rfl)))) da_nil)))))))))
 dss_nil)
 (dss_cons (ds_if (dt_val (de_isi rfl T.z_isinstance bb_isinstance (.own _) T.is_Paper (de_var (i := 0) rfl (by first | exact .inl rfl | exact .inr (.inl rfl) | exact .inr (.inr rfl))) (pe_glob rfl T.g_Paper rfl)))
 (dss_one (ds_ret (de_lst (da_cons de_str (da_cons (de_fld T.fld_unless (de_var (i := 0) rfl (by first | exact .inl rfl | exact .inr (.inl rfl) | exact .inr (.inr rfl)))) (da_cons (de_fld T.fld_shares (de_var (i := 0) rfl (by first | exact .inl rfl | exact .inr (.inl rfl) | exact .inr (.inr rfl)))) (da_cons (de_fld T.fld_made (de_var (i := 0) rfl (by first | exact .inl rfl | exact .inr (.inl rfl) | exact .inr (.inr rfl)))) (da_cons (de_fld T.fld_back (de_var (i := 0) rfl (by first | exact .inl rfl | exact .inr (.inl rfl) | exact .inr (.inr rfl)))) (da_cons (de_fld T.fld_pairs (de_var (i := 0) rfl (by first | exact .inl rfl | exact .inr (.inl rfl) | exact .inr (.inr rfl)))) (da_cons (de_fld T.fld_asked (de_var (i := 0) rfl (by first | exact .inl rfl | exact .inr (.inl rfl) | exact .inr (.inr rfl)))) da_nil))))))))))
 dss_nil)
 (dss_one (ds_ret (de_lst (da_cons de_str da_nil)))))))))))
theorem fd__law_fields (T : Txt K mg base A) : Fd P w K mg base fl 1 "_law_fields" 1 m__law_fields := ⟨⟨_, _, _, fn__law_fields T, T.g__law_fields, T.F__law_fields.kp, T.b__law_fields⟩⟩
theorem fn__law_rows (T : Txt K mg base A) : FnG P w K mg base 4 A.a__law_rows A.d__law_rows ["a", "b", "c", "d"] (spD ⟨K, mg, fl⟩ 4 m__law_rows) :=
 fnok_of T.F__law_rows sc__law_rows fun cdv A outer s H E hr => by
  have sc := sc__law_rows
  exact (dss_cons (ds_asg (de_tup (da_cons (de_call (fd__law_copy T) (hr.mono (by decide)) (takes_of rfl rfl rfl rfl) rfl (da_cons (de_var (i := 0) rfl (by first | exact .inl rfl | exact .inr (.inl rfl) | exact .inr (.inr rfl))) da_nil)) (da_cons (de_call (fd__law_copy T) (hr.mono (by decide)) (takes_of rfl rfl rfl rfl) rfl (da_cons (de_var (i := 1) rfl (by first | exact .inl rfl | exact .inr (.inl rfl) | exact .inr (.inr rfl))) da_nil)) (da_cons (de_call (fd__law_copy T) (hr.mono (by decide)) (takes_of rfl rfl rfl rfl) rfl (da_cons (de_var (i := 2) rfl (by first | exact .inl rfl | exact .inr (.inl rfl) | exact .inr (.inr rfl))) da_nil)) (da_cons (de_call (fd__law_copy T) (hr.mono (by decide)) (takes_of rfl rfl rfl rfl) rfl (da_cons (de_var (i := 3) rfl (by first | exact .inl rfl | exact .inr (.inl rfl) | exact .inr (.inr rfl))) da_nil)) da_nil))))) (dg_tup (n := 4) rfl (dgs_cons (dg_name (vs := [4, 5, 6, 7]) (i := 4) sc.nd rfl (by first | exact .inl rfl | exact .inr rfl) (by decide)) (dgs_cons (dg_name (vs := [4, 5, 6, 7]) (i := 5) sc.nd rfl (by first | exact .inl rfl | exact .inr rfl) (by decide)) (dgs_cons (dg_name (vs := [4, 5, 6, 7]) (i := 6) sc.nd rfl (by first | exact .inl rfl | exact .inr rfl) (by decide)) (dgs_cons (dg_name (vs := [4, 5, 6, 7]) (i := 7) sc.nd rfl (by first | exact .inl rfl | exact .inr rfl) (by decide)) dgs_nil))))))
 (dss_cons (ds_set (i := 8) sc.nd rfl (by first | exact .inl rfl | exact .inr rfl) (de_new (da_cons (de_tup (da_cons (de_make T.mk_Count (md_Count T) (hr.mono (by decide)) (takes_of rfl rfl rfl rfl) rfl T.g_Count rfl (da_cons de_int (da_cons (de_var (i := 0) rfl (by first | exact .inl rfl | exact .inr (.inl rfl) | exact .inr (.inr rfl))) da_nil))) (da_cons (de_makeK (ks := ["row", "first"]) (is := [1, 0]) T.mk_Count (md_Count T) (hr.mono (by decide)) (takes_of rfl rfl rfl rfl) rfl T.g_Count T.kw_Count (by decide) rfl (dk_cons (de_var (i := 0) rfl (by first | exact .inl rfl | exact .inr (.inl rfl) | exact .inr (.inr rfl))) (dk_cons de_int dk_nil))) (da_cons (de_lst (da_cons de_str (da_cons de_int (da_cons (de_var (i := 4) rfl (by first | exact .inl rfl | exact .inr (.inl rfl) | exact .inr (.inr rfl))) da_nil)))) da_nil)))) (da_cons (de_tup (da_cons (de_make T.mk_Follows (md_Follows T) (hr.mono (by decide)) (takes_of rfl rfl rfl rfl) rfl T.g_Follows rfl (da_cons (de_var (i := 0) rfl (by first | exact .inl rfl | exact .inr (.inl rfl) | exact .inr (.inr rfl))) da_nil)) (da_cons (de_makeK (ks := ["ops"]) (is := [0]) T.mk_Follows (md_Follows T) (hr.mono (by decide)) (takes_of rfl rfl rfl rfl) rfl T.g_Follows T.kw_Follows (by decide) rfl (dk_cons (de_var (i := 0) rfl (by first | exact .inl rfl | exact .inr (.inl rfl) | exact .inr (.inr rfl))) dk_nil)) (da_cons (de_lst (da_cons de_str (da_cons (de_var (i := 4) rfl (by first | exact .inl rfl | exact .inr (.inl rfl) | exact .inr (.inr rfl))) da_nil))) da_nil)))) da_nil))))
 (dss_cons (ds_expr (de_app (de_var (i := 8) rfl (by first | exact .inl rfl | exact .inr (.inl rfl) | exact .inr (.inr rfl))) (de_tup (da_cons (de_make T.mk_Breaks (md_Breaks T) (hr.mono (by decide)) (takes_of rfl rfl rfl rfl) rfl T.g_Breaks rfl (da_cons (de_var (i := 0) rfl (by first | exact .inl rfl | exact .inr (.inl rfl) | exact .inr (.inr rfl))) (da_cons (de_var (i := 1) rfl (by first | exact .inl rfl | exact .inr (.inl rfl) | exact .inr (.inr rfl))) da_nil))) (da_cons (de_makeK (ks := ["derivative", "point"]) (is := [1, 0]) T.mk_Breaks (md_Breaks T) (hr.mono (by decide)) (takes_of rfl rfl rfl rfl) rfl T.g_Breaks T.kw_Breaks (by decide) rfl (dk_cons (de_var (i := 1) rfl (by first | exact .inl rfl | exact .inr (.inl rfl) | exact .inr (.inr rfl))) (dk_cons (de_var (i := 0) rfl (by first | exact .inl rfl | exact .inr (.inl rfl) | exact .inr (.inr rfl))) dk_nil))) (da_cons (de_lst (da_cons de_str (da_cons (de_var (i := 4) rfl (by first | exact .inl rfl | exact .inr (.inl rfl) | exact .inr (.inr rfl))) (da_cons (de_var (i := 5) rfl (by first | exact .inl rfl | exact .inr (.inl rfl) | exact .inr (.inr rfl))) da_nil)))) da_nil))))))
 (dss_cons (ds_expr (de_app (de_var (i := 8) rfl (by first | exact .inl rfl | exact .inr (.inl rfl) | exact .inr (.inr rfl))) (de_tup (da_cons (de_make T.mk_Series (md_Series T) (hr.mono (by decide)) (takes_of rfl rfl rfl rfl) rfl T.g_Series rfl (da_cons (de_var (i := 0) rfl (by first | exact .inl rfl | exact .inr (.inl rfl) | exact .inr (.inr rfl))) da_nil)) (da_cons (de_makeK (ks := ["row"]) (is := [0]) T.mk_Series (md_Series T) (hr.mono (by decide)) (takes_of rfl rfl rfl rfl) rfl T.g_Series T.kw_Series (by decide) rfl (dk_cons (de_var (i := 0) rfl (by first | exact .inl rfl | exact .inr (.inl rfl) | exact .inr (.inr rfl))) dk_nil)) (da_cons (de_lst (da_cons de_str (da_cons (de_var (i := 4) rfl (by first | exact .inl rfl | exact .inr (.inl rfl) | exact .inr (.inr rfl))) da_nil))) da_nil))))))
 (dss_cons (ds_expr (de_app (de_var (i := 8) rfl (by first | exact .inl rfl | exact .inr (.inl rfl) | exact .inr (.inr rfl))) (de_tup (da_cons (de_make T.mk_NoSeries (md_NoSeries T) (hr.mono (by decide)) (takes_of rfl rfl rfl rfl) rfl T.g_NoSeries rfl (da_cons de_str da_nil)) (da_cons (de_makeK (ks := ["what"]) (is := [0]) T.mk_NoSeries (md_NoSeries T) (hr.mono (by decide)) (takes_of rfl rfl rfl rfl) rfl T.g_NoSeries T.kw_NoSeries (by decide) rfl (dk_cons de_str dk_nil)) (da_cons (de_lst (da_cons de_str (da_cons de_str da_nil))) da_nil))))))
 (dss_cons (ds_expr (de_app (de_var (i := 8) rfl (by first | exact .inl rfl | exact .inr (.inl rfl) | exact .inr (.inr rfl))) (de_tup (da_cons (de_make T.mk_Model (md_Model T) (hr.mono (by decide)) (takes_of rfl rfl rfl rfl) rfl T.g_Model rfl (da_cons (de_var (i := 0) rfl (by first | exact .inl rfl | exact .inr (.inl rfl) | exact .inr (.inr rfl))) (da_cons (de_var (i := 1) rfl (by first | exact .inl rfl | exact .inr (.inl rfl) | exact .inr (.inr rfl))) (da_cons de_str (da_cons (de_var (i := 2) rfl (by first | exact .inl rfl | exact .inr (.inl rfl) | exact .inr (.inr rfl))) (da_cons (de_var (i := 3) rfl (by first | exact .inl rfl | exact .inr (.inl rfl) | exact .inr (.inr rfl))) da_nil)))))) (da_cons (de_makeK (ks := ["asks", "told", "kind", "unknowns", "letters"]) (is := [4, 3, 2, 1, 0]) T.mk_Model (md_Model T) (hr.mono (by decide)) (takes_of rfl rfl rfl rfl) rfl T.g_Model T.kw_Model (by decide) rfl (dk_cons (de_var (i := 3) rfl (by first | exact .inl rfl | exact .inr (.inl rfl) | exact .inr (.inr rfl))) (dk_cons (de_var (i := 2) rfl (by first | exact .inl rfl | exact .inr (.inl rfl) | exact .inr (.inr rfl))) (dk_cons de_str (dk_cons (de_var (i := 1) rfl (by first | exact .inl rfl | exact .inr (.inl rfl) | exact .inr (.inr rfl))) (dk_cons (de_var (i := 0) rfl (by first | exact .inl rfl | exact .inr (.inl rfl) | exact .inr (.inr rfl))) dk_nil)))))) (da_cons (de_lst (da_cons de_str (da_cons (de_var (i := 4) rfl (by first | exact .inl rfl | exact .inr (.inl rfl) | exact .inr (.inr rfl))) (da_cons (de_var (i := 5) rfl (by first | exact .inl rfl | exact .inr (.inl rfl) | exact .inr (.inr rfl))) (da_cons de_str (da_cons (de_var (i := 6) rfl (by first | exact .inl rfl | exact .inr (.inl rfl) | exact .inr (.inr rfl))) (da_cons (de_var (i := 7) rfl (by first | exact .inl rfl | exact .inr (.inl rfl) | exact .inr (.inr rfl))) da_nil))))))) da_nil))))))
 (dss_cons (ds_expr (de_app (de_var (i := 8) rfl (by first | exact .inl rfl | exact .inr (.inl rfl) | exact .inr (.inr rfl))) (de_tup (da_cons (de_make T.mk_Paper (md_Paper T) (hr.mono (by decide)) (takes_of rfl rfl rfl rfl) rfl T.g_Paper rfl (da_cons (de_var (i := 0) rfl (by first | exact .inl rfl | exact .inr (.inl rfl) | exact .inr (.inr rfl))) (da_cons (de_var (i := 1) rfl (by first | exact .inl rfl | exact .inr (.inl rfl) | exact .inr (.inr rfl))) (da_cons (de_var (i := 2) rfl (by first | exact .inl rfl | exact .inr (.inl rfl) | exact .inr (.inr rfl))) (da_cons (de_var (i := 3) rfl (by first | exact .inl rfl | exact .inr (.inl rfl) | exact .inr (.inr rfl))) (da_cons (de_var (i := 0) rfl (by first | exact .inl rfl | exact .inr (.inl rfl) | exact .inr (.inr rfl))) (da_cons (de_var (i := 1) rfl (by first | exact .inl rfl | exact .inr (.inl rfl) | exact .inr (.inr rfl))) da_nil))))))) (da_cons (de_makeK (ks := ["asked", "pairs", "back", "made", "shares", "unless"]) (is := [5, 4, 3, 2, 1, 0]) T.mk_Paper (md_Paper T) (hr.mono (by decide)) (takes_of rfl rfl rfl rfl) rfl T.g_Paper T.kw_Paper (by decide) rfl (dk_cons (de_var (i := 1) rfl (by first | exact .inl rfl | exact .inr (.inl rfl) | exact .inr (.inr rfl))) (dk_cons (de_var (i := 0) rfl (by first | exact .inl rfl | exact .inr (.inl rfl) | exact .inr (.inr rfl))) (dk_cons (de_var (i := 3) rfl (by first | exact .inl rfl | exact .inr (.inl rfl) | exact .inr (.inr rfl))) (dk_cons (de_var (i := 2) rfl (by first | exact .inl rfl | exact .inr (.inl rfl) | exact .inr (.inr rfl))) (dk_cons (de_var (i := 1) rfl (by first | exact .inl rfl | exact .inr (.inl rfl) | exact .inr (.inr rfl))) (dk_cons (de_var (i := 0) rfl (by first | exact .inl rfl | exact .inr (.inl rfl) | exact .inr (.inr rfl))) dk_nil))))))) (da_cons (de_lst (da_cons de_str (da_cons (de_var (i := 4) rfl (by first | exact .inl rfl | exact .inr (.inl rfl) | exact .inr (.inr rfl))) (da_cons (de_var (i := 5) rfl (by first | exact .inl rfl | exact .inr (.inl rfl) | exact .inr (.inr rfl))) (da_cons (de_var (i := 6) rfl (by first | exact .inl rfl | exact .inr (.inl rfl) | exact .inr (.inr rfl))) (da_cons (de_var (i := 7) rfl (by first | exact .inl rfl | exact .inr (.inl rfl) | exact .inr (.inr rfl))) (da_cons (de_var (i := 4) rfl (by first | exact .inl rfl | exact .inr (.inl rfl) | exact .inr (.inr rfl))) (da_cons (de_var (i := 5) rfl (by first | exact .inl rfl | exact .inr (.inl rfl) | exact .inr (.inr rfl))) da_nil)))))))) da_nil))))))
 (dss_one (ds_ret (de_var (i := 8) rfl (by first | exact .inl rfl | exact .inr (.inl rfl) | exact .inr (.inr rfl))))))))))))
theorem fd__law_rows (T : Txt K mg base A) : Fd P w K mg base fl 4 "_law_rows" 4 m__law_rows := ⟨⟨_, _, _, fn__law_rows T, T.g__law_rows, T.F__law_rows.kp, T.b__law_rows⟩⟩
theorem fn_law (T : Txt K mg base A) : FnG P w K mg base 5 A.a_law A.d_law ["script"] (spD ⟨K, mg, fl⟩ 1 m_law) :=
 fnok_of T.F_law sc_law fun cdv A outer s H E hr => by
  have sc := sc_law
  exact (dss_cons (ds_set (i := 1) sc.nd rfl (by first | exact .inl rfl | exact .inr rfl) (de_call (fd__law_pen T) (hr.mono (by decide)) (takes_of rfl rfl rfl rfl) rfl (da_cons (de_var (i := 0) rfl (by first | exact .inl rfl | exact .inr (.inl rfl) | exact .inr (.inr rfl))) da_nil)))
 (dss_cons (ds_setLc (i := 2) rfl sc.nd rfl rfl (by rfl) (di_range1 rfl T.z_range de_int) (blkOk_by (own := [("k", 11)]) rfl) rfl (fun _ _ _ _ _ => (dg_name (vs := [11]) (i := 11) sc.nd rfl (by first | exact .inl rfl | exact .inr rfl) (by decide))) (fun _ _ _ _ _ => dts_nil) (fun _ _ _ _ _ => (de_call (fd__law_value T) (hr.mono (by decide)) takes0 rfl (da_cons (de_var (i := 1) rfl (by first | exact .inl rfl | exact .inr (.inl rfl) | exact .inr (.inr rfl))) da_nil))))
 (dss_cons (ds_asg (de_lc rfl sc.nd (di_seq (de_var (i := 2) rfl (by first | exact .inl rfl | exact .inr (.inl rfl) | exact .inr (.inr rfl)))) (blkOk_by (own := [("value", 14)]) rfl) rfl (fun _ _ _ _ _ => (dg_name (vs := [14]) (i := 14) sc.nd rfl (by first | exact .inl rfl | exact .inr rfl) (by decide))) (fun _ _ _ _ _ => dts_nil) (fun _ _ _ _ _ => (de_if (dt_val (de_isi rfl T.z_isinstance bb_isinstance (.ty _) (isi_ok_list T) (de_var (i := 14) rfl (by first | exact .inl rfl | exact .inr (.inl rfl) | exact .inr (.inr rfl))) (pe_bltn rfl T.z_list bb_list rfl))) (de_listN rfl T.z_list bb_list (da_cons (de_var (i := 14) rfl (by first | exact .inl rfl | exact .inr (.inl rfl) | exact .inr (.inr rfl))) da_nil)) (de_var (i := 14) rfl (by first | exact .inl rfl | exact .inr (.inl rfl) | exact .inr (.inr rfl)))))) (dg_lst (n := 4) rfl (dgs_cons (dg_name (vs := [3, 4, 5, 6]) (i := 3) sc.nd rfl (by first | exact .inl rfl | exact .inr rfl) (by decide)) (dgs_cons (dg_name (vs := [3, 4, 5, 6]) (i := 4) sc.nd rfl (by first | exact .inl rfl | exact .inr rfl) (by decide)) (dgs_cons (dg_name (vs := [3, 4, 5, 6]) (i := 5) sc.nd rfl (by first | exact .inl rfl | exact .inr rfl) (by decide)) (dgs_cons (dg_name (vs := [3, 4, 5, 6]) (i := 6) sc.nd rfl (by first | exact .inl rfl | exact .inr rfl) (by decide)) dgs_nil))))))
 (dss_cons (ds_set (i := 7) sc.nd rfl (by first | exact .inl rfl | exact .inr rfl) (de_call (fd__law_rows T) (hr.mono (by decide)) (takes_of rfl rfl rfl rfl) rfl (da_cons (de_var (i := 3) rfl (by first | exact .inl rfl | exact .inr (.inl rfl) | exact .inr (.inr rfl))) (da_cons (de_var (i := 4) rfl (by first | exact .inl rfl | exact .inr (.inl rfl) | exact .inr (.inr rfl))) (da_cons (de_var (i := 5) rfl (by first | exact .inl rfl | exact .inr (.inl rfl) | exact .inr (.inr rfl))) (da_cons (de_var (i := 6) rfl (by first | exact .inl rfl | exact .inr (.inl rfl) | exact .inr (.inr rfl))) da_nil))))))
 (dss_cons (ds_for PassesOwn.leaving rfl (di_seq (de_var (i := 7) rfl (by first | exact .inl rfl | exact .inr (.inl rfl) | exact .inr (.inr rfl)))) (dg_tup (n := 3) rfl (dgs_cons (dg_name (vs := [8, 9, 10]) (i := 8) sc.nd rfl (by first | exact .inl rfl | exact .inr rfl) (by decide)) (dgs_cons (dg_name (vs := [8, 9, 10]) (i := 9) sc.nd rfl (by first | exact .inl rfl | exact .inr rfl) (by decide)) (dgs_cons (dg_name (vs := [8, 9, 10]) (i := 10) sc.nd rfl (by first | exact .inl rfl | exact .inr rfl) (by decide)) dgs_nil))))
 (dss_one (ds_if (dt_w (dw_or (dt_cmp (op_neA hr T.sys) v_ne (de_b (call_repr hr T.sys) v_repr rfl T.z_repr bb_repr (da_cons (de_call (fd__law_fields T) (hr.mono (by decide)) (takes_of rfl rfl rfl rfl) rfl (da_cons (de_var (i := 8) rfl (by first | exact .inl rfl | exact .inr (.inl rfl) | exact .inr (.inr rfl))) da_nil)) da_nil)) (de_b (call_repr hr T.sys) v_repr rfl T.z_repr bb_repr (da_cons (de_var (i := 10) rfl (by first | exact .inl rfl | exact .inr (.inl rfl) | exact .inr (.inr rfl))) da_nil)) rfl) (dw_or (dt_cmp (op_neA hr T.sys) v_ne (de_b (call_repr hr T.sys) v_repr rfl T.z_repr bb_repr (da_cons (de_call (fd__law_fields T) (hr.mono (by decide)) (takes_of rfl rfl rfl rfl) rfl (da_cons (de_var (i := 9) rfl (by first | exact .inl rfl | exact .inr (.inl rfl) | exact .inr (.inr rfl))) da_nil)) da_nil)) (de_b (call_repr hr T.sys) v_repr rfl T.z_repr bb_repr (da_cons (de_var (i := 10) rfl (by first | exact .inl rfl | exact .inr (.inl rfl) | exact .inr (.inr rfl))) da_nil)) rfl) (dw_or (dt_own (op_neA hr T.sys) rfl v_ne (hr.mono (by decide)) (own_ne T) (de_var (i := 8) rfl (by first | exact .inl rfl | exact .inr (.inl rfl) | exact .inr (.inr rfl))) (de_var (i := 9) rfl (by first | exact .inl rfl | exact .inr (.inl rfl) | exact .inr (.inr rfl))) rfl) (dw_or1 (dt_not (dt_own (op_eqD hr T.sys) rfl v_eqD (hr.mono (by decide)) (own_eq T) (de_var (i := 8) rfl (by first | exact .inl rfl | exact .inr (.inl rfl) | exact .inr (.inr rfl))) (de_var (i := 9) rfl (by first | exact .inl rfl | exact .inr (.inl rfl) | exact .inr (.inr rfl))) rfl)))))))
 (dss_one (ds_ret de_bl))
 dss_nil)))
 (dss_cons (ds_for PassesOwn.leaving rfl (di_range1 rfl T.z_range (de_b call_lenA v_len rfl T.z_len bb_len (da_cons (de_var (i := 7) rfl (by first | exact .inl rfl | exact .inr (.inl rfl) | exact .inr (.inr rfl))) da_nil))) (dg_name (vs := [11]) (i := 11) sc.nd rfl (by first | exact .inl rfl | exact .inr rfl) (by decide))
 (dss_cons (ds_set (i := 12) sc.nd rfl (by first | exact .inl rfl | exact .inr rfl) (de_item (de_item (de_var (i := 7) rfl (by first | exact .inl rfl | exact .inr (.inl rfl) | exact .inr (.inr rfl))) (de_op op_modN v_mod (de_ty call_int1 v_int1 rfl T.z_int bb_int (da_cons (de_op op_plus v_plus (de_op op_plus v_plus (de_var (i := 11) rfl (by first | exact .inl rfl | exact .inr (.inl rfl) | exact .inr (.inr rfl))) de_int) (de_call (fd__law_draw T) (hr.mono (by decide)) (takes_of rfl rfl rfl rfl) rfl (da_cons (de_var (i := 1) rfl (by first | exact .inl rfl | exact .inr (.inl rfl) | exact .inr (.inr rfl))) (da_cons (de_op op_sub v_sub (de_b call_lenA v_len rfl T.z_len bb_len (da_cons (de_var (i := 7) rfl (by first | exact .inl rfl | exact .inr (.inl rfl) | exact .inr (.inr rfl))) da_nil)) de_int) da_nil)))) da_nil)) (de_b call_lenA v_len rfl T.z_len bb_len (da_cons (de_var (i := 7) rfl (by first | exact .inl rfl | exact .inr (.inl rfl) | exact .inr (.inr rfl))) da_nil))) (fun _ _ => rfl)) de_int (fun _ _ => rfl)))
 (dss_one (ds_if (dt_w (dw_or (dt_own (op_eqD hr T.sys) rfl v_eqD (hr.mono (by decide)) (own_eq T) (de_item (de_item (de_var (i := 7) rfl (by first | exact .inl rfl | exact .inr (.inl rfl) | exact .inr (.inr rfl))) (de_var (i := 11) rfl (by first | exact .inl rfl | exact .inr (.inl rfl) | exact .inr (.inr rfl))) (fun _ _ => rfl)) de_int (fun _ _ => rfl)) (de_var (i := 12) rfl (by first | exact .inl rfl | exact .inr (.inl rfl) | exact .inr (.inr rfl))) rfl) (dw_or1 (dt_not (dt_own (op_neA hr T.sys) rfl v_ne (hr.mono (by decide)) (own_ne T) (de_item (de_item (de_var (i := 7) rfl (by first | exact .inl rfl | exact .inr (.inl rfl) | exact .inr (.inr rfl))) (de_var (i := 11) rfl (by first | exact .inl rfl | exact .inr (.inl rfl) | exact .inr (.inr rfl))) (fun _ _ => rfl)) de_int (fun _ _ => rfl)) (de_var (i := 12) rfl (by first | exact .inl rfl | exact .inr (.inl rfl) | exact .inr (.inr rfl))) rfl)))))
 (dss_one (ds_ret de_bl))
 dss_nil))))
 (dss_cons (ds_if (dt_w (dw_or (dt_own (op_eqD hr T.sys) rfl v_eqD (hr.mono (by decide)) (own_eq T) (de_make T.mk_Count (md_Count T) (hr.mono (by decide)) (takes_of rfl rfl rfl rfl) rfl T.g_Count rfl (da_cons de_int (da_cons (de_tup (da_cons de_int da_nil)) da_nil))) (de_make T.mk_Count (md_Count T) (hr.mono (by decide)) (takes_of rfl rfl rfl rfl) rfl T.g_Count rfl (da_cons de_int (da_cons (de_tup (da_cons de_int da_nil)) da_nil))) rfl) (dw_or (dt_own (op_eqD hr T.sys) rfl v_eqD (hr.mono (by decide)) (own_eq T) (de_make T.mk_Follows (md_Follows T) (hr.mono (by decide)) (takes_of rfl rfl rfl rfl) rfl T.g_Follows rfl (da_cons (de_tup da_nil) da_nil)) (de_make T.mk_Follows (md_Follows T) (hr.mono (by decide)) (takes_of rfl rfl rfl rfl) rfl T.g_Follows rfl (da_cons (de_tup (da_cons de_int da_nil)) da_nil)) rfl) (dw_or (dt_own (op_eqD hr T.sys) rfl v_eqD (hr.mono (by decide)) (own_eq T) (de_make T.mk_Breaks (md_Breaks T) (hr.mono (by decide)) (takes_of rfl rfl rfl rfl) rfl T.g_Breaks rfl (da_cons (de_tup da_nil) (da_cons de_int da_nil))) (de_make T.mk_Breaks (md_Breaks T) (hr.mono (by decide)) (takes_of rfl rfl rfl rfl) rfl T.g_Breaks rfl (da_cons (de_tup da_nil) (da_cons de_int da_nil))) rfl) (dw_or1 (dt_own (op_eqD hr T.sys) rfl v_eqD (hr.mono (by decide)) (own_eq T) (de_make T.mk_Series (md_Series T) (hr.mono (by decide)) (takes_of rfl rfl rfl rfl) rfl T.g_Series rfl (da_cons (de_tup da_nil) da_nil)) (de_make T.mk_Series (md_Series T) (hr.mono (by decide)) (takes_of rfl rfl rfl rfl) rfl T.g_Series rfl (da_cons (de_tup (da_cons de_int da_nil)) da_nil)) rfl))))))
 (dss_one (ds_ret de_bl))
 dss_nil)
 (dss_cons (ds_if (dt_w (dw_or (dt_own (op_eqD hr T.sys) rfl v_eqD (hr.mono (by decide)) (own_eq T) (de_make T.mk_NoSeries (md_NoSeries T) (hr.mono (by decide)) (takes_of rfl rfl rfl rfl) rfl T.g_NoSeries rfl (da_cons de_str da_nil)) (de_make T.mk_NoSeries (md_NoSeries T) (hr.mono (by decide)) (takes_of rfl rfl rfl rfl) rfl T.g_NoSeries rfl (da_cons de_str da_nil)) rfl) (dw_or1 (dt_own (op_eqD hr T.sys) rfl v_eqD (hr.mono (by decide)) (own_eq T) (de_make T.mk_Model (md_Model T) (hr.mono (by decide)) (takes_of rfl rfl rfl rfl) rfl T.g_Model rfl (da_cons (de_tup da_nil) (da_cons (de_tup da_nil) (da_cons de_str (da_cons (de_tup da_nil) (da_cons (de_tup da_nil) da_nil)))))) (de_make T.mk_Model (md_Model T) (hr.mono (by decide)) (takes_of rfl rfl rfl rfl) rfl T.g_Model rfl (da_cons (de_tup da_nil) (da_cons (de_tup da_nil) (da_cons de_str (da_cons (de_tup da_nil) (da_cons (de_tup da_nil) da_nil)))))) rfl))))
 (dss_one (ds_ret de_bl))
 dss_nil)
 (dss_cons (ds_set (i := 13) sc.nd rfl (by first | exact .inl rfl | exact .inr rfl) (de_b (call_repr hr T.sys) v_repr rfl T.z_repr bb_repr (da_cons (de_fld T.fld_ops (de_item (de_item (de_var (i := 7) rfl (by first | exact .inl rfl | exact .inr (.inl rfl) | exact .inr (.inr rfl))) de_int (fun _ _ => rfl)) de_int (fun _ _ => rfl))) da_nil)))
 (dss_cons (ds_if (dt_val (de_isi rfl T.z_isinstance bb_isinstance (.ty _) (isi_ok_list T) (de_var (i := 3) rfl (by first | exact .inl rfl | exact .inr (.inl rfl) | exact .inr (.inr rfl))) (pe_bltn rfl T.z_list bb_list rfl)))
 (dss_one (ds_expr (de_app (de_var (i := 3) rfl (by first | exact .inl rfl | exact .inr (.inl rfl) | exact .inr (.inr rfl))) de_int)))
 dss_nil)
 (dss_one (ds_ret (de_cmp (op_eqD hr T.sys) v_eqD (de_b (call_repr hr T.sys) v_repr rfl T.z_repr bb_repr (da_cons (de_fld T.fld_ops (de_item (de_item (de_var (i := 7) rfl (by first | exact .inl rfl | exact .inr (.inl rfl) | exact .inr (.inr rfl))) de_int (fun _ _ => rfl)) de_int (fun _ _ => rfl))) da_nil)) (de_var (i := 13) rfl (by first | exact .inl rfl | exact .inr (.inl rfl) | exact .inr (.inr rfl))) rfl)))))))))))))
theorem fd_law (T : Txt K mg base A) : Fd P w K mg base fl 5 "law" 1 m_law := ⟨⟨_, _, _, fn_law T, T.g_law, T.F_law.kp, T.b_law⟩⟩
end
end K90
/-! k90: the plain law -/
namespace K90
open PySem PySem.Spec PyProof.Rows L2 DL

/-! ### drawn values -/
def fixed : List D := [.tup [.int 1, .int 2], .tup [], .str "web", .int 5, .non, .bl true, .tup [.tup [.int 0, .int 1]], .int (-3), .str "", .tup [.int 1], .tup [.int 2], .int 1, .int 2]
inductive NL (st : Store) : D → Prop where
  | fix {v : D} (h : v ∈ fixed) : NL st v
  | dict {k : Nat} (h0 : k ≠ 0) (h : st[k]? = some (.dk [(.inr "a", .int 1)])) : NL st (.ref k)
inductive LsI : List D → Prop where
  | l1 : LsI [.int 1, .lst [.int 2]]
  | l2 : LsI []
  | l3 : LsI [.lst [.int 0], .lst [.int 1]]
  | l4 : LsI [.non]
  | l5 {x y z : Int} (hx : 0 ≤ x ∧ x < 9) (hy : 0 ≤ y ∧ y < 9) (hz : 0 ≤ z ∧ z < 9) : LsI [.int x, .int y, .int z]
/-- a as it is handed in, e as it is kept -/
inductive AOk (st : Store) : D → D → Prop where
  | nl {a : D} (h : NL st a) : AOk st a a
  | ls {k : Nat} {items : List D} (h0 : k ≠ 0) (h : st[k]? = some (.lst items)) (hi : LsI items) : AOk st (.ref k) (.tup items)
/-- all but the pen stays -/
def Ge (st st' : Store) : Prop := ∀ i so, i ≠ 0 → st[i]? = some so → st'[i]? = some so
theorem Ge.refl {st : Store} : Ge st st := fun _ _ _ h => h
theorem Ge.trans {st st1 st2 : Store} (a : Ge st st1) (b : Ge st1 st2) : Ge st st2 := fun i so h0 h => b i so h0 (a i so h0 h)
theorem app_get {st : Store} {i : Nat} {so x : SO} (h : st[i]? = some so) : (st ++ [x])[i]? = some so := by
  rw [List.getElem?_append_left (List.getElem?_eq_some_iff.mp h).1]
  exact h
theorem Ge.push {st : Store} {x : SO} : Ge st (st ++ [x]) := fun i so _ h => app_get h
theorem Ge.pen {st : Store} {x : SO} : Ge st (st.set 0 x) := fun i so h0 h => by rw [List.getElem?_set_ne (Ne.symm h0)]; exact h
theorem NL.ge {st st' : Store} {v : D} (h : NL st v) (g : Ge st st') : NL st' v := by
  cases h with
  | fix h => exact .fix h
  | dict h0 h => exact .dict h0 (g _ _ h0 h)
theorem AOk.ge {st st' : Store} {a e : D} (h : AOk st a e) (g : Ge st st') : AOk st' a e := by
  cases h with
  | nl h => exact .nl (h.ge g)
  | ls h0 h hi => exact .ls h0 (g _ _ h0 h) hi

/-! ### what is kept can be shown and compared -/
structure Good (st : Store) (e : D) : Prop where
  py : ∃ p, toPy st 59 e = some p ∧ toPy st 60 e = some p ∧ Shows p 40 1000
  rf : reflIn 40 e = true
  eq : fEqD st e e = some (.bl true)
theorem eqD_refl {st : Store} {d : D} (hs : scalD d d = none) (h : reflTop st d = true) : fEqD st d d = some (.bl true) := by
  unfold fEqD fEq
  rw [hs]
  dsimp only
  unfold fEqP
  cases hp : toPy st 60 d with
  | none => simp [h]
  | some p =>
    dsimp only
    by_cases hc : SeqAt.shaped p = true ∧ SeqAt.shaped p = true
    · rw [if_pos hc]
      rw [SeqAt.eqv_refl p (SeqAt.canLay_of_shaped hc.1)]
    · rw [if_neg hc]
      simp [h]
theorem shows_by {p : PyData} {n w : Nat} (h1 : p.showable = true) (h2 : chOk p = true) (h3 : wt p ≤ w) (h4 : p.depth ≤ n) : Shows p n w := ⟨h1, h2, h3, h4⟩
theorem log2_le {x : Int} (h0 : 0 ≤ x) (h1 : x < 9) : x.natAbs.log2 ≤ 3 := by
  have : x.natAbs < 2 ^ 4 := by omega
  by_cases hz : x.natAbs = 0
  · rw [hz]; decide
  · have := (Nat.log2_lt hz).mpr this
    omega
theorem good_items {st : Store} {items : List D} (h : LsI items) : Good st (.tup items) := by
  cases h with
  | l1 => exact ⟨⟨.tuple [.int 1, .list [.int 2]], rfl, rfl, by unfold Shows; decide +kernel⟩, rfl, eqD_refl rfl rfl⟩
  | l2 => exact ⟨⟨.tuple [], rfl, rfl, by unfold Shows; decide +kernel⟩, rfl, eqD_refl rfl rfl⟩
  | l3 => exact ⟨⟨.tuple [.list [.int 0], .list [.int 1]], rfl, rfl, by unfold Shows; decide +kernel⟩, rfl, eqD_refl rfl rfl⟩
  | l4 => exact ⟨⟨.tuple [.none], rfl, rfl, by unfold Shows; decide +kernel⟩, rfl, eqD_refl rfl rfl⟩
  | @l5 x y z hx hy hz =>
    have h1 := log2_le hx.1 hx.2
    have h2 := log2_le hy.1 hy.2
    have h3 := log2_le hz.1 hz.2
    refine ⟨⟨.tuple [.int x, .int y, .int z], rfl, rfl, ⟨?_, rfl, ?_, ?_⟩⟩, rfl, eqD_refl rfl rfl⟩
    · simp only [PyData.showable, PyData.showableAll, Bool.and_true, Bool.and_eq_true, decide_eq_true_eq]
      omega
    · simp only [wt, wtAll]
      omega
    · simp [PyData.depth, PyData.depthAll]
theorem good_nl {st : Store} {e : D} (h : NL st e) : Good st e := by
  cases h with
  | fix h =>
    simp only [fixed, List.mem_cons, List.not_mem_nil, or_false] at h
    rcases h with rfl | rfl | rfl | rfl | rfl | rfl | rfl | rfl | rfl | rfl | rfl | rfl | rfl
    · exact ⟨⟨.tuple [.int 1, .int 2], rfl, rfl, by unfold Shows; decide +kernel⟩, rfl, eqD_refl rfl rfl⟩
    · exact ⟨⟨.tuple [], rfl, rfl, by unfold Shows; decide +kernel⟩, rfl, eqD_refl rfl rfl⟩
    · exact ⟨⟨.str "web", rfl, rfl, by unfold Shows; decide +kernel⟩, rfl, rfl⟩
    · exact ⟨⟨.int 5, rfl, rfl, by unfold Shows; decide +kernel⟩, rfl, rfl⟩
    · exact ⟨⟨.none, rfl, rfl, by unfold Shows; decide +kernel⟩, rfl, rfl⟩
    · exact ⟨⟨.bool true, rfl, rfl, by unfold Shows; decide +kernel⟩, rfl, rfl⟩
    · exact ⟨⟨.tuple [.tuple [.int 0, .int 1]], rfl, rfl, by unfold Shows; decide +kernel⟩, rfl, eqD_refl rfl rfl⟩
    · exact ⟨⟨.int (-3), rfl, rfl, by unfold Shows; decide +kernel⟩, rfl, rfl⟩
    · exact ⟨⟨.str "", rfl, rfl, by unfold Shows; decide +kernel⟩, rfl, rfl⟩
    · exact ⟨⟨.tuple [.int 1], rfl, rfl, by unfold Shows; decide +kernel⟩, rfl, eqD_refl rfl rfl⟩
    · exact ⟨⟨.tuple [.int 2], rfl, rfl, by unfold Shows; decide +kernel⟩, rfl, eqD_refl rfl rfl⟩
    · exact ⟨⟨.int 1, rfl, rfl, by unfold Shows; decide +kernel⟩, rfl, rfl⟩
    · exact ⟨⟨.int 2, rfl, rfl, by unfold Shows; decide +kernel⟩, rfl, rfl⟩
  | dict h0 h =>
    refine ⟨⟨.dict [(.str "a", .int 1)], ?_, ?_, by unfold Shows; decide +kernel⟩, rfl, eqD_refl rfl ?_⟩
    · simp [toPy, h, mapO, keyPy]
    · simp [toPy, h, mapO, keyPy]
    · simp [reflTop, h]
theorem AOk.good {st : Store} {a e : D} (h : AOk st a e) : Good st e := by
  cases h with
  | nl h => exact good_nl h
  | ls h0 h hi => exact good_items hi
theorem good_str {st : Store} {x : Str} (h : Shows (.str x) 40 1000) : Good st (.str x) := ⟨⟨.str x, rfl, rfl, h⟩, rfl, by unfold fEqD fEq scalD; simp⟩
theorem good_int {st : Store} {x : Int} (h : Shows (.int x) 40 1000) : Good st (.int x) := ⟨⟨.int x, rfl, rfl, h⟩, rfl, by unfold fEqD fEq scalD; simp⟩
/-- a row of such is shown -/
theorem rows_py {st : Store} : ∀ {ds : List D}, (∀ d ∈ ds, Good st d) → ∃ ps, mapO (toPy st 59) ds = some ps ∧ PyData.showableAll ps = true ∧ chAll ps = true ∧ wtAll ps ≤ 1002 * ds.length ∧ PyData.depthAll ps ≤ 40
  | [], _ => ⟨[], rfl, rfl, rfl, by simp [wtAll], by simp [PyData.depthAll]⟩
  | d :: ds, h => by
    obtain ⟨p, hp, _, h1, h2, h3, h4⟩ := (h d List.mem_cons_self).py
    obtain ⟨ps, k0, k1, k2, k3, k4⟩ := rows_py fun d hd => h d (List.mem_cons_of_mem _ hd)
    refine ⟨p :: ps, by rw [mapO_cons, hp, k0]; rfl, by simp [PyData.showableAll, h1, k1], by simp [chAll, h2, k2], ?_, ?_⟩
    · simp only [wtAll, List.length_cons]
      omega
    · simp only [PyData.depthAll]
      omega
theorem repr_row {st : Store} {ds : List D} (h : ∀ d ∈ ds, Good st d) (hl : ds.length ≤ 20) : ∃ s, fRepr st [.lst ds] = some (.str s) := by
  obtain ⟨ps, k0, k1, k2, k3, k4⟩ := rows_py h
  refine ⟨_, repr_some (p := PyData.list ps) (by show (mapO (toPy st 59) ds).map PyData.list = _; rw [k0]; rfl) ⟨by simpa [PyData.showable] using k1, by simpa [chOk] using k2, ?_, ?_⟩⟩
  · have : sizeLine = 16777216 := sizeLine_eq
    simp only [wt]
    omega
  · simp only [PyData.depth]
    omega
theorem repr_one {st : Store} {e : D} (h : Good st e) : ∃ s, fRepr st [e] = some (.str s) := by
  obtain ⟨p, _, hp, h1, h2, h3, h4⟩ := h.py
  exact ⟨_, repr_some hp ⟨h1, h2, Nat.le_trans h3 (by decide), by omega⟩⟩
theorem tup_refl {st : Store} {ds : List D} (h : ∀ d ∈ ds, Good st d) : fEqD st (.tup ds) (.tup ds) = some (.bl true) := by
  refine eqD_refl rfl ?_
  show ds.all (reflIn 40) = true
  rw [List.all_eq_true]
  exact fun d hd => (h d hd).rf

/-! ### copied -/
theorem copied_run {st : Store} {a e : D} (h : AOk st a e) : m_copied [a] st = .ok e st := by
  unfold m_copied
  refine fn_ret (δ := [some a]) (ret_run ?_)
  cases h with
  | nl h =>
    have hk : eIsi isi_list (eVar 0) [some a] st = .ok (.bl false) st := by
      cases h with
      | fix h =>
        simp only [fixed, List.mem_cons, List.not_mem_nil, or_false] at h
        rcases h with rfl | rfl | rfl | rfl | rfl | rfl | rfl | rfl | rfl | rfl | rfl | rfl | rfl <;> rfl
      | dict h0 h => exact e1_run (var_run rfl) (by simp only [kdOf, h]; rfl)
    rw [show startD 1 [a] = [some a] from rfl, ifE_not (tOf_run hk)]
    exact var_run rfl
  | @ls k items h0 h hi =>
    have hk : eIsi isi_list (eVar 0) [some (.ref k)] st = .ok (.bl true) st := e1_run (var_run rfl) (by simp only [kdOf, h]; rfl)
    rw [show startD 1 [.ref k] = [some (.ref k)] from rfl, ifE_yes (tOf_run hk)]
    exact eN_run (one_run (var_run rfl)) (by simp only [fTuple, seqOf, h]; rfl)
theorem copy_run {st : Store} {a e : D} (h : AOk st a e) : m__law_copy [a] st = .ok e st := copied_run h

/-! ### the instances -/
theorem set_last {st : Store} {x y : SO} : (st ++ [x]).set st.length y = st ++ [y] := by
  rw [List.set_append_right _ _ (Nat.le_refl _), Nat.sub_self]
  rfl
theorem get_last {st : Store} {x : SO} : (st ++ [x])[st.length]? = some x := by
  rw [List.getElem?_append_right (Nat.le_refl _), Nat.sub_self]
  rfl
theorem fld_last {st : Store} {c : Str} {fs : List (Str × D)} {cs : List Str} {f : Str} {m : EM} {v : D} {δ : DEnv} (hm : m δ (st ++ [.ins c fs]) = .ok v (st ++ [.ins c fs])) (hd : δ[0]? = some (some (.ref st.length))) (hc : c ∈ cs) (hl : fs.length < 1000) :
    sFldM cs f (eVar 0) m δ (st ++ [.ins c fs]) = .ok (.next, δ) (st ++ [.ins c (putFD f v fs)]) := by
  unfold sFldM
  rw [M.ok_bind hm, M.ok_bind (var_run hd)]
  dsimp only
  rw [get_last]
  dsimp only
  rw [if_pos ⟨hc, hl⟩, set_last]
theorem mk_last {st : Store} {c : Str} {ds : List D} {m : List D → M D} {fs : List (Str × D)} (h : m (.ref st.length :: ds) (st ++ [.ins c []]) = .ok .non (st ++ [.ins c fs])) (hf : fs.map (·.1) = fl c) : mk fl c m ds st = .ok (.ob c (fs.map (·.2))) (st ++ [.dead]) := by
  unfold mk
  rw [h]
  dsimp only
  rw [get_last]
  dsimp only
  rw [if_pos ⟨rfl, hf⟩, set_last]
theorem AOk.push {st : Store} {a e : D} {x : SO} (h : AOk st a e) : AOk (st ++ [x]) a e := h.ge Ge.push
theorem cop {st : Store} {a e : D} {x : SO} {δ : DEnv} {i : Nat} (h : AOk st a e) (hd : δ[i]? = some (some a)) : eCall 1 m_copied (aCons (eVar i) aNil) δ (st ++ [x]) = .ok e (st ++ [x]) := call_run (one_run (var_run hd)) rfl (copied_run h.push)
section
variable {st : Store} {a b c d e f g h : D}
theorem mk_Count (i : Int) (ha : AOk st a e) : mk fl "Count" m_Count [.int i, a] st = .ok (.ob "Count" [.int i, e]) (st ++ [.dead]) := by
  refine mk_last (fs := [("first", .int i), ("row", e)]) ?_ rfl
  unfold m_Count
  refine fn_next (δ := [some (.ref st.length), some (.int i), some a]) ?_
  show sSeq _ _ [some (.ref st.length), some (.int i), some a] _ = _
  rw [seq_next (fld_last (var_run rfl) rfl (by decide) (Nat.le_of_ble_eq_true rfl))]
  exact fld_last (cop ha rfl) rfl (by decide) (Nat.le_of_ble_eq_true rfl)
theorem mk_Follows (ha : AOk st a e) : mk fl "Follows" m_Follows [a] st = .ok (.ob "Follows" [e]) (st ++ [.dead]) := by
  refine mk_last (fs := [("ops", e)]) ?_ rfl
  unfold m_Follows
  refine fn_next (δ := [some (.ref st.length), some a]) ?_
  exact fld_last (cop ha rfl) rfl (by decide) (Nat.le_of_ble_eq_true rfl)
theorem mk_Breaks (ha : AOk st a e) (hb : AOk st b f) : mk fl "Breaks" m_Breaks [a, b] st = .ok (.ob "Breaks" [e, f]) (st ++ [.dead]) := by
  refine mk_last (fs := [("point", e), ("derivative", f)]) ?_ rfl
  unfold m_Breaks
  refine fn_next (δ := [some (.ref st.length), some a, some b]) ?_
  show sSeq _ _ [some (.ref st.length), some a, some b] _ = _
  rw [seq_next (fld_last (cop ha rfl) rfl (by decide) (Nat.le_of_ble_eq_true rfl))]
  exact fld_last (cop hb rfl) rfl (by decide) (Nat.le_of_ble_eq_true rfl)
theorem mk_Series (ha : AOk st a e) : mk fl "Series" m_Series [a] st = .ok (.ob "Series" [e]) (st ++ [.dead]) := by
  refine mk_last (fs := [("row", e)]) ?_ rfl
  unfold m_Series
  refine fn_next (δ := [some (.ref st.length), some a]) ?_
  exact fld_last (cop ha rfl) rfl (by decide) (Nat.le_of_ble_eq_true rfl)
theorem mk_NoSeries : mk fl "NoSeries" m_NoSeries [a] st = .ok (.ob "NoSeries" [a]) (st ++ [.dead]) := by
  refine mk_last (fs := [("what", a)]) ?_ rfl
  unfold m_NoSeries
  refine fn_next (δ := [some (.ref st.length), some a]) ?_
  exact fld_last (var_run rfl) rfl (by decide) (Nat.le_of_ble_eq_true rfl)
theorem mk_Model {x : D} (ha : AOk st a e) (hb : AOk st b f) (hc : AOk st c g) (hd : AOk st d h) : mk fl "Model" m_Model [a, b, x, c, d] st = .ok (.ob "Model" [e, f, x, g, h]) (st ++ [.dead]) := by
  refine mk_last (fs := [("letters", e), ("unknowns", f), ("kind", x), ("told", g), ("asks", h)]) ?_ rfl
  unfold m_Model
  refine fn_next (δ := [some (.ref st.length), some a, some b, some x, some c, some d]) ?_
  show sSeq _ _ [some (.ref st.length), some a, some b, some x, some c, some d] _ = _
  rw [seq_next (fld_last (cop ha rfl) rfl (by decide) (Nat.le_of_ble_eq_true rfl)), seq_next (fld_last (cop hb rfl) rfl (by decide) (Nat.le_of_ble_eq_true rfl)), seq_next (fld_last (var_run rfl) rfl (by decide) (Nat.le_of_ble_eq_true rfl)), seq_next (fld_last (cop hc rfl) rfl (by decide) (Nat.le_of_ble_eq_true rfl))]
  exact fld_last (cop hd rfl) rfl (by decide) (Nat.le_of_ble_eq_true rfl)
theorem mk_Paper {a2 b2 e2 f2 : D} (ha : AOk st a e) (hb : AOk st b f) (hc : AOk st c g) (hd : AOk st d h) (ha2 : AOk st a2 e2) (hb2 : AOk st b2 f2) : mk fl "Paper" m_Paper [a, b, c, d, a2, b2] st = .ok (.ob "Paper" [e, f, g, h, e2, f2]) (st ++ [.dead]) := by
  refine mk_last (fs := [("unless", e), ("shares", f), ("made", g), ("back", h), ("pairs", e2), ("asked", f2)]) ?_ rfl
  unfold m_Paper
  refine fn_next (δ := [some (.ref st.length), some a, some b, some c, some d, some a2, some b2]) ?_
  show sSeq _ _ [some (.ref st.length), some a, some b, some c, some d, some a2, some b2] _ = _
  rw [seq_next (fld_last (cop ha rfl) rfl (by decide) (Nat.le_of_ble_eq_true rfl)), seq_next (fld_last (cop hb rfl) rfl (by decide) (Nat.le_of_ble_eq_true rfl)), seq_next (fld_last (cop hc rfl) rfl (by decide) (Nat.le_of_ble_eq_true rfl)), seq_next (fld_last (cop hd rfl) rfl (by decide) (Nat.le_of_ble_eq_true rfl)), seq_next (fld_last (cop ha2 rfl) rfl (by decide) (Nat.le_of_ble_eq_true rfl))]
  exact fld_last (cop hb2 rfl) rfl (by decide) (Nat.le_of_ble_eq_true rfl)
end
theorem make_run {c : Str} {n : Nat} {m : List D → M D} {a : AM} {δ : DEnv} {st st1 st2 : Store} {ds : List D} {d : D} (ha : a δ st = .ok ds st1) (hl : ds.length = n) (h : mk fl c m ds st1 = .ok d st2) : eMake fl c n m a δ st = .ok d st2 := by
  unfold eMake
  rw [M.ok_bind ha, if_pos hl, h]
theorem makeK_run {c : Str} {n : Nat} {is : List Nat} {m : List D → M D} {a : AM} {δ : DEnv} {st st1 st2 : Store} {ds es : List D} {d : D} (ha : a δ st = .ok ds st1) (hl : ds.length = n) (hp : permL is ds = es) (h : mk fl c m es st1 = .ok d st2) : eMakeK fl c n is m a δ st = .ok d st2 := by
  unfold eMakeK
  rw [M.ok_bind ha, if_pos hl, hp, h]
theorem tup_run {a : AM} {δ : DEnv} {st st1 : Store} {ds : List D} (ha : a δ st = .ok ds st1) (hl : ds.length ≤ 1000) : eTup a δ st = .ok (.tup ds) st1 := by
  unfold eTup
  rw [M.ok_bind ha, if_pos (Nat.le_trans hl (by decide))]
  rfl
theorem lst_run {a : AM} {δ : DEnv} {st st1 : Store} {ds : List D} (ha : a δ st = .ok ds st1) (hl : ds.length ≤ 1000) : eLst a δ st = .ok (.lst ds) st1 := by
  unfold eLst
  rw [M.ok_bind ha, if_pos (Nat.le_trans hl (by decide))]
  rfl
theorem new_run {a : AM} {δ : DEnv} {st st1 : Store} {ds : List D} (ha : a δ st = .ok ds st1) (hl : ds.length ≤ 1000) : eNew a δ st = .ok (.ref st1.length) (st1 ++ [.lst ds]) := by
  unfold eNew
  rw [M.ok_bind ha]
  exact if_pos (Nat.le_trans hl (by decide))
theorem fldE {cs : List Str} {f c : Str} {ds : List D} {m : EM} {δ : DEnv} {st st1 : Store} {v : D} (hm : m δ st = .ok (.ob c ds) st1) (hc : c ∈ cs) (h : ((fl c).zip ds).lookup f = some v) : e1 (fFld fl cs f) m δ st = .ok v st1 :=
  e1_run hm ((if_pos hc).trans h)

/-! ### the fields told -/
section
variable {st : Store} {i : Int} {e f g h x e2 f2 : D}
theorem f_Count : m__law_fields [.ob "Count" [x, e]] st = .ok (.lst [.str "Count", x, e]) st := rfl
theorem f_Follows : m__law_fields [.ob "Follows" [e]] st = .ok (.lst [.str "Follows", e]) st := rfl
theorem f_Breaks : m__law_fields [.ob "Breaks" [e, f]] st = .ok (.lst [.str "Breaks", e, f]) st := rfl
theorem f_Series : m__law_fields [.ob "Series" [e]] st = .ok (.lst [.str "Series", e]) st := rfl
theorem f_NoSeries : m__law_fields [.ob "NoSeries" [e]] st = .ok (.lst [.str "NoSeries", e]) st := rfl
theorem f_Model : m__law_fields [.ob "Model" [e, f, x, g, h]] st = .ok (.lst [.str "Model", e, f, x, g, h]) st := rfl
theorem f_Paper : m__law_fields [.ob "Paper" [e, f, g, h, e2, f2]] st = .ok (.lst [.str "Paper", e, f, g, h, e2, f2]) st := rfl
end

/-! ### equal, not equal -/
section
variable {st : Store} {x e f g h e2 f2 : D}
theorem isi_yes {c : Str} {ds : List D} {δ : DEnv} {i : Nat} (hd : δ[i]? = some (some (.ob c ds))) (hc : c ∈ cs) : eIsi (isiTbl cs c) (eVar i) δ st = .ok (.bl true) st :=
  e1_run (var_run hd) (by show ((if c ∈ cs then some (decide (c = c)) else none : Option Bool)).map D.bl = _; rw [if_pos hc]; simp)
theorem isi_no {c c' : Str} {ds : List D} {δ : DEnv} {i : Nat} (hd : δ[i]? = some (some (.ob c' ds))) (hc : c' ∈ cs) (hn : c' ≠ c) : eIsi (isiTbl cs c) (eVar i) δ st = .ok (.bl false) st :=
  e1_run (var_run hd) (by show ((if c' ∈ cs then some (decide (c' = c)) else none : Option Bool)).map D.bl = _; rw [if_pos hc]; simp [hn])
theorem eAnd_yes {a b : EM} {δ : DEnv} {st1 : Store} (ha : a δ st = .ok (.bl true) st1) : eAnd a b δ st = b δ st1 := by
  unfold eAnd
  rw [M.ok_bind ha]
  rfl
theorem eAnd_not {a b : EM} {δ : DEnv} {st1 : Store} (ha : a δ st = .ok (.bl false) st1) : eAnd a b δ st = .ok (.bl false) st1 := by
  unfold eAnd
  rw [M.ok_bind ha]
  rfl
theorem eNot_run {a : EM} {δ : DEnv} {st1 : Store} {b : Bool} (ha : a δ st = .ok (.bl b) st1) : eNot a δ st = .ok (.bl !b) st1 := by
  unfold eNot
  rw [M.ok_bind ha]
  rfl
theorem q_Count (hx : Good st x) (he : Good st e) : m_Count___eq__ [.ob "Count" [x, e], .ob "Count" [x, e]] st = .ok (.bl true) st := by
  unfold m_Count___eq__
  refine fn_ret (δ := [some (.ob "Count" [x, e]), some (.ob "Count" [x, e])]) (ret_run ?_)
  rw [show startD 2 [.ob "Count" [x, e], .ob "Count" [x, e]] = [some (.ob "Count" [x, e]), some (.ob "Count" [x, e])] from rfl, eAnd_yes (isi_yes rfl (by decide))]
  refine e2_run (x := .tup [x, e]) (y := .tup [x, e]) rfl rfl (tup_refl ?_)
  intro d hd
  simp only [List.mem_cons, List.not_mem_nil, or_false] at hd
  rcases hd with rfl | rfl <;> assumption
theorem q_Follows (he : Good st e) : m_Follows___eq__ [.ob "Follows" [e], .ob "Follows" [e]] st = .ok (.bl true) st := by
  unfold m_Follows___eq__
  refine fn_ret (δ := [some (.ob "Follows" [e]), some (.ob "Follows" [e])]) (ret_run ?_)
  rw [show startD 2 [.ob "Follows" [e], .ob "Follows" [e]] = [some (.ob "Follows" [e]), some (.ob "Follows" [e])] from rfl, eAnd_yes (isi_yes rfl (by decide))]
  exact e2_run (x := e) (y := e) rfl rfl he.eq
theorem q_Breaks (hx : Good st x) (he : Good st e) : m_Breaks___eq__ [.ob "Breaks" [x, e], .ob "Breaks" [x, e]] st = .ok (.bl true) st := by
  unfold m_Breaks___eq__
  refine fn_ret (δ := [some (.ob "Breaks" [x, e]), some (.ob "Breaks" [x, e])]) (ret_run ?_)
  rw [show startD 2 [.ob "Breaks" [x, e], .ob "Breaks" [x, e]] = [some (.ob "Breaks" [x, e]), some (.ob "Breaks" [x, e])] from rfl, eAnd_yes (isi_yes rfl (by decide))]
  refine e2_run (x := .tup [x, e]) (y := .tup [x, e]) rfl rfl (tup_refl ?_)
  intro d hd
  simp only [List.mem_cons, List.not_mem_nil, or_false] at hd
  rcases hd with rfl | rfl <;> assumption
theorem q_Series (he : Good st e) : m_Series___eq__ [.ob "Series" [e], .ob "Series" [e]] st = .ok (.bl true) st := by
  unfold m_Series___eq__
  refine fn_ret (δ := [some (.ob "Series" [e]), some (.ob "Series" [e])]) (ret_run ?_)
  rw [show startD 2 [.ob "Series" [e], .ob "Series" [e]] = [some (.ob "Series" [e]), some (.ob "Series" [e])] from rfl, eAnd_yes (isi_yes rfl (by decide))]
  exact e2_run (x := e) (y := e) rfl rfl he.eq
theorem q_NoSeries (he : Good st e) : m_NoSeries___eq__ [.ob "NoSeries" [e], .ob "NoSeries" [e]] st = .ok (.bl true) st := by
  unfold m_NoSeries___eq__
  refine fn_ret (δ := [some (.ob "NoSeries" [e]), some (.ob "NoSeries" [e])]) (ret_run ?_)
  rw [show startD 2 [.ob "NoSeries" [e], .ob "NoSeries" [e]] = [some (.ob "NoSeries" [e]), some (.ob "NoSeries" [e])] from rfl, eAnd_yes (isi_yes rfl (by decide))]
  exact e2_run (x := e) (y := e) rfl rfl he.eq
theorem key_Model : m_model_key [.ob "Model" [e, f, x, g, h]] st = .ok (.tup [e, f, x, g, h]) st := rfl
theorem key_Paper : m_paper_key [.ob "Paper" [e, f, g, h, e2, f2]] st = .ok (.tup [e, f, g, h, e2, f2]) st := rfl
theorem q_Model (he : Good st e) (hf : Good st f) (hx : Good st x) (hg : Good st g) (hh : Good st h) : m_Model___eq__ [.ob "Model" [e, f, x, g, h], .ob "Model" [e, f, x, g, h]] st = .ok (.bl true) st := by
  unfold m_Model___eq__
  refine fn_ret (δ := [some (.ob "Model" [e, f, x, g, h]), some (.ob "Model" [e, f, x, g, h])]) (ret_run ?_)
  rw [show startD 2 [.ob "Model" [e, f, x, g, h], .ob "Model" [e, f, x, g, h]] = [some (.ob "Model" [e, f, x, g, h]), some (.ob "Model" [e, f, x, g, h])] from rfl, eAnd_yes (isi_yes rfl (by decide))]
  refine e2_run (call_run (one_run (var_run rfl)) rfl key_Model) (call_run (one_run (var_run rfl)) rfl key_Model) (tup_refl ?_)
  intro d hd
  simp only [List.mem_cons, List.not_mem_nil, or_false] at hd
  rcases hd with rfl | rfl | rfl | rfl | rfl <;> assumption
theorem q_Paper (he : Good st e) (hf : Good st f) (hg : Good st g) (hh : Good st h) (he2 : Good st e2) (hf2 : Good st f2) : m_Paper___eq__ [.ob "Paper" [e, f, g, h, e2, f2], .ob "Paper" [e, f, g, h, e2, f2]] st = .ok (.bl true) st := by
  unfold m_Paper___eq__
  refine fn_ret (δ := [some (.ob "Paper" [e, f, g, h, e2, f2]), some (.ob "Paper" [e, f, g, h, e2, f2])]) (ret_run ?_)
  rw [show startD 2 [.ob "Paper" [e, f, g, h, e2, f2], .ob "Paper" [e, f, g, h, e2, f2]] = [some (.ob "Paper" [e, f, g, h, e2, f2]), some (.ob "Paper" [e, f, g, h, e2, f2])] from rfl, eAnd_yes (isi_yes rfl (by decide))]
  refine e2_run (call_run (one_run (var_run rfl)) rfl key_Paper) (call_run (one_run (var_run rfl)) rfl key_Paper) (tup_refl ?_)
  intro d hd
  simp only [List.mem_cons, List.not_mem_nil, or_false] at hd
  rcases hd with rfl | rfl | rfl | rfl | rfl | rfl <;> assumption
end
/-- == and != of instances -/
def EqOb (st : Store) (a b : D) (v : Bool) : Prop := fOwn tblEq cs fEqD a b st = .ok (.bl v) st
def NeOb (st : Store) (a b : D) (v : Bool) : Prop := fOwn tblNe cs fNe a b st = .ok (.bl v) st
theorem own_ok {tbl : Str → Option (List D → M D)} {F : Store → D → D → Option D} {c c' : Str} {ds es : List D} {st st' : Store} {m : List D → M D} {v : Bool} (ht : tbl c = some m) (hc : c' ∈ cs) (h : m [.ob c ds, .ob c' es] st = .ok (.bl v) st') : fOwn tbl cs F (.ob c ds) (.ob c' es) st = .ok (.bl v) st' := by
  unfold fOwn
  dsimp only
  rw [ht]
  dsimp only
  rw [if_pos hc, h]
theorem ne_of_eq {c c' : Str} {ds es : List D} {st : Store} {v : Bool} (hc : c ∈ cs) (hc' : c' ∈ cs) (h : EqOb st (.ob c ds) (.ob c' es) v) : NeOb st (.ob c ds) (.ob c' es) (!v) := by
  have hr : ∀ (body : SM), body = sRet (eNot (e2M (fOwn tblEq cs fEqD) (eVar 0) (eVar 1))) → fn 2 body [.ob c ds, .ob c' es] st = .ok (.bl !v) st := by
    intro body e
    subst e
    refine fn_ret (δ := [some (.ob c ds), some (.ob c' es)]) (ret_run (eNot_run ?_))
    unfold e2M
    rw [M.ok_bind (var_run (d := .ob c ds) rfl), M.ok_bind (var_run (d := .ob c' es) rfl)]
    exact h
  unfold NeOb
  simp only [cs, List.mem_cons, List.not_mem_nil, or_false] at hc
  rcases hc with rfl | rfl | rfl | rfl | rfl | rfl | rfl
  · exact own_ok (m := m_Count___ne__) rfl hc' (hr _ rfl)
  · exact own_ok (m := m_Follows___ne__) rfl hc' (hr _ rfl)
  · exact own_ok (m := m_Breaks___ne__) rfl hc' (hr _ rfl)
  · exact own_ok (m := m_Series___ne__) rfl hc' (hr _ rfl)
  · exact own_ok (m := m_NoSeries___ne__) rfl hc' (hr _ rfl)
  · exact own_ok (m := m_Model___ne__) rfl hc' (hr _ rfl)
  · exact own_ok (m := m_Paper___ne__) rfl hc' (hr _ rfl)
theorem eq_other {c c' : Str} {ds es : List D} {st : Store} (hc : c ∈ cs) (hc' : c' ∈ cs) (hn : c' ≠ c) : EqOb st (.ob c ds) (.ob c' es) false := by
  have hr : ∀ (b : EM), fn 2 (sRet (eAnd (eIsi (isiTbl cs c) (eVar 1)) b)) [.ob c ds, .ob c' es] st = .ok (.bl false) st := by
    intro b
    refine fn_ret (δ := [some (.ob c ds), some (.ob c' es)]) (ret_run ?_)
    exact eAnd_not (isi_no rfl hc' hn)
  unfold EqOb
  simp only [cs, List.mem_cons, List.not_mem_nil, or_false] at hc
  rcases hc with rfl | rfl | rfl | rfl | rfl | rfl | rfl
  · exact own_ok (m := m_Count___eq__) rfl hc' (hr _)
  · exact own_ok (m := m_Follows___eq__) rfl hc' (hr _)
  · exact own_ok (m := m_Breaks___eq__) rfl hc' (hr _)
  · exact own_ok (m := m_Series___eq__) rfl hc' (hr _)
  · exact own_ok (m := m_NoSeries___eq__) rfl hc' (hr _)
  · exact own_ok (m := m_Model___eq__) rfl hc' (hr _)
  · exact own_ok (m := m_Paper___eq__) rfl hc' (hr _)

/-! ### comprehensions -/
theorem compL_nil {all : List D} {g : GM} {t : TM} {e : EM} {δ : DEnv} {st : Store} : compL none all g t e δ [] st = .ok [] st := rfl
theorem compL_cons {all : List D} {g : GM} {e : EM} {δ δ1 : DEnv} {d y : D} {ds ys : List D} {st st1 st2 : Store} (hg : g d δ = some δ1) (he : e δ1 st = .ok y st1) (hr : compL none all g tYesM e δ ds st1 = .ok ys st2) : compL none all g tYesM e δ (d :: ds) st = .ok (y :: ys) st2 := by
  unfold compL
  rw [chk_none, hg]
  dsimp only
  have ht : tYesM δ1 st = .ok true st := rfl
  rw [M.ok_bind ht, if_pos rfl, M.ok_bind he, M.ok_bind hr]
  rfl
theorem comp_run {vs : List Nat} {it : IM} {g : GM} {t : TM} {e : EM} {δ : DEnv} {ds ys : List D} {st st0 st1 : Store} (hi : it δ st = .ok (ds, none) st0) (hl : ds.length ≤ 1000) (h : compL none ds g t e (wipeD δ vs) ds st0 = .ok ys st1) : eComp vs it g t e δ st = .ok (.lst ys) st1 := by
  unfold eComp aComp
  have h2 : (it δ >>= fun p => if p.1.length ≤ sizeLine then nox (compL p.2 p.1 g t e (wipeD δ vs) p.1) else M.stuck) st = .ok ys st1 := by
    rw [M.ok_bind hi]
    dsimp only
    rw [if_pos (Nat.le_trans hl (by decide))]
    unfold nox
    rw [h]
  rw [M.ok_bind h2]
  rfl

/-! ### drawn values -/
def VOk (st : Store) (v : D) : Prop := NL st v ∨ ∃ items, v = .lst items ∧ LsI items
theorem VOk.ge {st st' : Store} {v : D} (h : VOk st v) (g : Ge st st') : VOk st' v := h.imp (fun h => h.ge g) id
def some14 (n : Nat) : List D := [.tup [.int 1, .int 2], .lst [.int 1, .lst [.int 2]], .lst [], .tup [], .str "web", .int 5, .non, .bl true, .tup [.tup [.int 0, .int 1]], .lst [.lst [.int 0], .lst [.int 1]], .ref n, .int (-3), .str "", .lst [.non]]
theorem value_run {st : Store} {p : Pen} {c : Int} (h : st[0]? = some p.so) (ok : PenOk c p) (hc : c ≤ 10 ^ 11) :
    ∃ v p' st', m__law_value [.ref 0] st = .ok v st' ∧ st'[0]? = some p'.so ∧ PenOk (c + 4) p' ∧ Ge st st' ∧ VOk st' v := by
  have hpos : 0 < st.length := (List.getElem?_eq_some_iff.mp h).1
  obtain ⟨n, hn⟩ : ∃ n, n = st.length := ⟨_, rfl⟩
  obtain ⟨st1, e1⟩ : ∃ st1, st1 = st ++ [SO.dk [(.inr "a", .int 1)]] := ⟨_, rfl⟩
  have h1 : st1[0]? = some p.so := by rw [e1]; exact app_get h
  have hd1 : st1[n]? = some (.dk [(.inr "a", .int 1)]) := by rw [e1, hn]; exact get_last
  have l1 : 0 < st1.length := (List.getElem?_eq_some_iff.mp h1).1
  have G : ∀ so, (st1.set 0 so)[0]? = some so := fun so => List.getElem?_set_self l1
  have G2 : ∀ so, (st1.set 0 so)[n]? = some (.dk [(.inr "a", .int 1)]) := fun so => by rw [List.getElem?_set_ne (by omega)]; exact hd1
  obtain ⟨o1, a0, a1⟩ := ok.drawn (many := 9) (by decide)
  obtain ⟨o2, b0, b1⟩ := o1.drawn (many := 9) (by decide)
  obtain ⟨o3, c0, c1⟩ := o2.drawn (many := 9) (by decide)
  have r1 := draw_run h1 ok (by omega) (many := 9) (by decide) (by decide)
  have r2 := draw_run (G (p.drawn 9).2.so) o1 (by omega) (many := 9) (by decide) (by decide)
  rw [List.set_set] at r2
  have r3 := draw_run (G ((p.drawn 9).2.drawn 9).2.so) o2 (by omega) (many := 9) (by decide) (by decide)
  rw [List.set_set] at r3
  generalize (p.drawn 9).1 = x at a0 a1 r1
  generalize (p.drawn 9).2 = p1 at b0 b1 c0 c1 o1 o2 o3 r1 r2 r3
  generalize (p1.drawn 9).1 = y at b0 b1 r2
  generalize (p1.drawn 9).2 = p2 at c0 c1 o2 o3 r2 r3
  generalize (p2.drawn 9).1 = z at c0 c1 r3
  generalize (p2.drawn 9).2 = p3 at o3 r3
  have hcomp : eComp [2] (itRange1 (eC (.int 3))) (gSet 2) tYesM (eCall 2 m__law_draw (aCons (eVar 0) (aCons (eC (.int 9)) aNil))) [some (.ref 0), some (.lst (some14 n)), none] st1 = .ok (.lst [.int x, .int y, .int z]) (st1.set 0 p3.so) := by
    refine comp_run (ds := [.int 0, .int 1, .int 2]) (st0 := st1) rfl (by decide) ?_
    refine compL_cons (δ1 := [some (.ref 0), some (.lst (some14 n)), some (.int 0)]) rfl (call_run (cons_run (var_run rfl) (one_run c_run)) rfl r1) ?_
    refine compL_cons (δ1 := [some (.ref 0), some (.lst (some14 n)), some (.int 1)]) rfl (call_run (cons_run (var_run rfl) (one_run c_run)) rfl r2) ?_
    refine compL_cons (δ1 := [some (.ref 0), some (.lst (some14 n)), some (.int 2)]) rfl (call_run (cons_run (var_run rfl) (one_run c_run)) rfl r3) ?_
    exact compL_nil
  have hlist : ∀ st : Store, (fun (m : EM) => m [some (.ref 0), none, none] st) (eLst (aCons (eTup (aCons (eC (.int 1)) (aCons (eC (.int 2)) aNil))) (aCons (eLst (aCons (eC (.int 1)) (aCons (eLst (aCons (eC (.int 2)) aNil)) aNil))) (aCons (eLst aNil) (aCons (eTup aNil) (aCons (eC (.str "web")) (aCons (eC (.int 5)) (aCons (eC .non) (aCons (eC (.bl true)) (aCons (eTup (aCons (eTup (aCons (eC (.int 0)) (aCons (eC (.int 1)) aNil))) aNil)) (aCons (eLst (aCons (eLst (aCons (eC (.int 0)) aNil)) (aCons (eLst (aCons (eC (.int 1)) aNil)) aNil))) (aCons (eDisp [("a", (eC (.int 1)))]) (aCons (DL.e1 fNeg (eC (.int 3))) (aCons (eC (.str "")) (aCons (eLst (aCons (eC .non) aNil)) aNil))))))))))))))) = .ok (.lst (some14 st.length)) (st ++ [.dk [(.inr "a", .int 1)]]) := fun st => rfl
  have hplus : fPlus (st1.set 0 p3.so) (.lst (some14 n)) (.lst [.lst [.int x, .int y, .int z]]) = some (.lst (some14 n ++ [.lst [.int x, .int y, .int z]])) := rfl
  obtain ⟨v, p4, hv, o4, r4⟩ := pick_run (d := .lst (some14 n ++ [.lst [.int x, .int y, .int z]])) (xs := some14 n ++ [.lst [.int x, .int y, .int z]]) (G p3.so) o3 (by omega) rfl (fun _ => rfl) (by simp [some14]) (by simp [some14])
  rw [List.set_set] at r4
  refine ⟨v, p4, st1.set 0 p4.so, ?_, G _, ?_, ?_, ?_⟩
  · unfold m__law_value
    refine fn_ret (δ := [some (.ref 0), some (.lst (some14 n)), none]) ?_
    show sSeq _ _ [some (.ref 0), none, none] st = _
    have hl := hlist st
    rw [← e1, ← hn] at hl
    rw [seq_next (set_run hl)]
    exact ret_run (call_run (cons_run (var_run rfl) (one_run (e2_run (var_run rfl) (lst_run (one_run hcomp) (Nat.le_of_ble_eq_true rfl)) hplus))) rfl r4)
  · have : c + 1 + 1 + 1 + 1 = c + 4 := by omega
    rw [← this]
    exact o4
  · rw [e1] at *
    exact Ge.push.trans Ge.pen
  · simp only [some14, List.cons_append, List.nil_append, List.mem_cons, List.not_mem_nil, or_false] at hv
    rcases hv with rfl | rfl | rfl | rfl | rfl | rfl | rfl | rfl | rfl | rfl | rfl | rfl | rfl | rfl | rfl
    · exact .inl (.fix (by simp [fixed]))
    · exact .inr ⟨_, rfl, .l1⟩
    · exact .inr ⟨_, rfl, .l2⟩
    · exact .inl (.fix (by simp [fixed]))
    · exact .inl (.fix (by simp [fixed]))
    · exact .inl (.fix (by simp [fixed]))
    · exact .inl (.fix (by simp [fixed]))
    · exact .inl (.fix (by simp [fixed]))
    · exact .inl (.fix (by simp [fixed]))
    · exact .inr ⟨_, rfl, .l3⟩
    · exact .inl (.dict (by omega) (G2 _))
    · exact .inl (.fix (by simp [fixed]))
    · exact .inl (.fix (by simp [fixed]))
    · exact .inr ⟨_, rfl, .l4⟩
    · exact .inr ⟨_, rfl, .l5 ⟨a0, a1⟩ ⟨b0, b1⟩ ⟨c0, c1⟩⟩
/-- list(value) if it is a list -/
theorem arg_run {st : Store} {v : D} {δ : DEnv} (hd : δ[14]? = some (some v)) (hp : 0 < st.length) (h : VOk st v) : ∃ a e st', eIf (tOf (eIsi isi_list (eVar 14))) (eListN (aCons (eVar 14) aNil)) (eVar 14) δ st = .ok a st' ∧ (st' = st ∨ ∃ x, st' = st ++ [x]) ∧ AOk st' a e := by
  rcases h with h | ⟨items, rfl, h⟩
  · refine ⟨v, v, st, ?_, .inl rfl, .nl h⟩
    have hk : eIsi isi_list (eVar 14) δ st = .ok (.bl false) st := by
      cases h with
      | fix h =>
        simp only [fixed, List.mem_cons, List.not_mem_nil, or_false] at h
        rcases h with rfl | rfl | rfl | rfl | rfl | rfl | rfl | rfl | rfl | rfl | rfl | rfl | rfl <;> exact e1_run (var_run hd) rfl
      | dict h0 h => exact e1_run (var_run hd) (by simp only [kdOf, h]; rfl)
    rw [ifE_not (tOf_run hk)]
    exact var_run hd
  · refine ⟨.ref st.length, .tup items, st ++ [.lst items], ?_, .inr ⟨_, rfl⟩, .ls (by omega) get_last h⟩
    have hk : eIsi isi_list (eVar 14) δ st = .ok (.bl true) st := e1_run (var_run hd) rfl
    rw [ifE_yes (tOf_run hk)]
    unfold eListN
    rw [M.ok_bind (one_run (var_run hd))]
    dsimp only [seqOf]
    have hl : items.length ≤ sizeLine := by cases h <;> exact Nat.le_of_ble_eq_true rfl
    rw [if_pos hl]

/-! ### the rows -/
/-- nothing at all changes but what is new -/
def Le (st st' : Store) : Prop := ∀ (i : Nat) (so : SO), st[i]? = some so → st'[i]? = some so
theorem Le.refl {st : Store} : Le st st := fun _ _ h => h
theorem Le.trans {st st1 st2 : Store} (a : Le st st1) (b : Le st1 st2) : Le st st2 := fun i so h => b i so (a i so h)
theorem Le.push {st : Store} {x : SO} : Le st (st ++ [x]) := fun i so h => app_get h
theorem Le.ge {st st' : Store} (h : Le st st') : Ge st st' := fun i so _ k => h i so k
theorem Le.len {st st' : Store} (h : Le st st') : st.length ≤ st'.length := by
  cases q : st.length with
  | zero => omega
  | succ n =>
    have h1 : n < st.length := by omega
    have := (List.getElem?_eq_some_iff.mp (h n _ (List.getElem?_eq_getElem h1))).1
    omega
theorem Le.set {st st' : Store} {r : Nat} {x : SO} (h : Le st st') (hr : st.length ≤ r) : Le st (st'.set r x) := fun i so k => by
  have := (List.getElem?_eq_some_iff.mp k).1
  rw [List.getElem?_set_ne (by omega)]
  exact h i so k
def row1 (e : D) : D := .tup [.ob "Count" [.int 3, e], .ob "Count" [.int 3, e], .lst [.str "Count", .int 3, e]]
def row2 (e : D) : D := .tup [.ob "Follows" [e], .ob "Follows" [e], .lst [.str "Follows", e]]
def row3 (e f : D) : D := .tup [.ob "Breaks" [e, f], .ob "Breaks" [e, f], .lst [.str "Breaks", e, f]]
def row4 (e : D) : D := .tup [.ob "Series" [e], .ob "Series" [e], .lst [.str "Series", e]]
def row5 : D := .tup [.ob "NoSeries" [.str "point"], .ob "NoSeries" [.str "point"], .lst [.str "NoSeries", .str "point"]]
def row6 (e f g h : D) : D := .tup [.ob "Model" [e, f, .str "x", g, h], .ob "Model" [e, f, .str "x", g, h], .lst [.str "Model", e, f, .str "x", g, h]]
def row7 (e f g h : D) : D := .tup [.ob "Paper" [e, f, g, h, e, f], .ob "Paper" [e, f, g, h, e, f], .lst [.str "Paper", e, f, g, h, e, f]]
theorem app_run {i r : Nat} {b : EM} {δ : DEnv} {st st1 : Store} {xs ys : List D} {y : D} (hd : δ[i]? = some (some (.ref r))) (h : st[r]? = some (.lst xs)) (hb : b δ st = .ok y st1) (h1 : st1[r]? = some (.lst ys)) (hl : ys.length < 1000) : eApp (eVar i) b δ st = .ok .non (st1.set r (.lst (ys ++ [y]))) := by
  unfold eApp
  rw [M.ok_bind (var_run hd)]
  try dsimp only
  rw [h]
  try dsimp only
  rw [M.ok_bind hb]
  try dsimp only
  rw [h1]
  try dsimp only
  rw [if_pos (Nat.lt_of_lt_of_le hl (by decide))]
theorem ex_run {m : EM} {δ : DEnv} {st st' : Store} {d : D} (h : m δ st = .ok d st') : sEx m δ st = .ok (.next, δ) st' := by
  unfold sEx
  rw [M.ok_bind h]
  rfl
theorem app2_get {st : Store} {r : Nat} {so x y : SO} (h : st[r]? = some so) : (st ++ [x] ++ [y])[r]? = some so := app_get (app_get h)
theorem rows_run {st : Store} {a b c d e f g h : D} (ha : AOk st a e) (hb : AOk st b f) (hc : AOk st c g) (hd : AOk st d h) :
    ∃ r st', m__law_rows [a, b, c, d] st = .ok (.ref r) st' ∧ st'[r]? = some (.lst [row1 e, row2 e, row3 e f, row4 e, row5, row6 e f g h, row7 e f g h]) ∧ Le st st' ∧ st.length ≤ r := by
  obtain ⟨δ, eδ⟩ : ∃ δ : DEnv, δ = [some a, some b, some c, some d, some e, some f, some g, some h, none] := ⟨_, rfl⟩
  obtain ⟨r, er⟩ : ∃ r, r = (st ++ [SO.dead] ++ [SO.dead] ++ [SO.dead] ++ [SO.dead]).length := ⟨_, rfl⟩
  obtain ⟨η, eη⟩ : ∃ η : DEnv, η = [some a, some b, some c, some d, some e, some f, some g, some h, some (.ref r)] := ⟨_, rfl⟩
  have hr : st.length ≤ r := by rw [er]; simp
  -- the first two
  obtain ⟨st1, e1⟩ : ∃ st1, st1 = st ++ [SO.dead] ++ [SO.dead] ++ [SO.dead] ++ [SO.dead] ++ [SO.lst [row1 e, row2 e]] := ⟨_, rfl⟩
  have g1 : st1[r]? = some (.lst [row1 e, row2 e]) := by rw [e1, er]; exact get_last
  have L1 : Le st st1 := by rw [e1]; exact ((((Le.push).trans Le.push).trans Le.push).trans Le.push).trans Le.push
  have a1 := ha.push (x := SO.dead)
  have a2 := a1.push (x := SO.dead)
  have a3 := a2.push (x := SO.dead)
  have n1 : eNew (aCons (eTup (aCons (eMake fl "Count" 2 m_Count (aCons (eC (.int 3)) (aCons (eVar 0) aNil))) (aCons (eMakeK fl "Count" 2 [1, 0] m_Count (aCons (eVar 0) (aCons (eC (.int 3)) aNil))) (aCons (eLst (aCons (eC (.str "Count")) (aCons (eC (.int 3)) (aCons (eVar 4) aNil)))) aNil)))) (aCons (eTup (aCons (eMake fl "Follows" 1 m_Follows (aCons (eVar 0) aNil)) (aCons (eMakeK fl "Follows" 1 [0] m_Follows (aCons (eVar 0) aNil)) (aCons (eLst (aCons (eC (.str "Follows")) (aCons (eVar 4) aNil))) aNil)))) aNil)) δ st = .ok (.ref r) st1 := by
    rw [e1, er, eδ]
    refine new_run (cons_run (tup_run (cons_run (make_run (cons_run c_run (one_run (var_run rfl))) rfl (mk_Count 3 ha)) (cons_run (makeK_run (cons_run (var_run rfl) (one_run c_run)) rfl rfl (mk_Count 3 a1)) (one_run (lst_run (cons_run c_run (cons_run c_run (one_run (var_run rfl)))) (Nat.le_of_ble_eq_true rfl))))) (Nat.le_of_ble_eq_true rfl)) (one_run (tup_run (cons_run (make_run (one_run (var_run rfl)) rfl (mk_Follows a2)) (cons_run (makeK_run (one_run (var_run rfl)) rfl rfl (mk_Follows a3)) (one_run (lst_run (cons_run c_run (one_run (var_run rfl))) (Nat.le_of_ble_eq_true rfl))))) (Nat.le_of_ble_eq_true rfl)))) (Nat.le_of_ble_eq_true rfl)
  -- one more each
  have grow : ∀ {st1 : Store} {xs : List D} {b : EM} {y : D}, Le st st1 → st1[r]? = some (.lst xs) → xs.length < 1000 → b η st1 = .ok y (st1 ++ [SO.dead] ++ [SO.dead]) → ∃ st2, sEx (eApp (eVar 8) b) η st1 = .ok (.next, η) st2 ∧ Le st st2 ∧ st2[r]? = some (.lst (xs ++ [y])) := by
    intro st1 xs b y L1 g1 hl hb
    have g2 := app2_get (x := SO.dead) (y := SO.dead) g1
    refine ⟨_, ex_run (app_run (by rw [eη]; rfl) g1 hb g2 hl), ((L1.trans Le.push).trans Le.push).set hr, ?_⟩
    exact List.getElem?_set_self (List.getElem?_eq_some_iff.mp g2).1
  obtain ⟨st2, s2, L2, g2⟩ := grow (y := row3 e f) (b := eTup (aCons (eMake fl "Breaks" 2 m_Breaks (aCons (eVar 0) (aCons (eVar 1) aNil))) (aCons (eMakeK fl "Breaks" 2 [1, 0] m_Breaks (aCons (eVar 1) (aCons (eVar 0) aNil))) (aCons (eLst (aCons (eC (.str "Breaks")) (aCons (eVar 4) (aCons (eVar 5) aNil)))) aNil)))) L1 g1 (Nat.le_of_ble_eq_true rfl) (by
    rw [eη]
    have x1 := ha.ge L1.ge
    have x2 := hb.ge L1.ge
    exact tup_run (cons_run (make_run (cons_run (var_run rfl) (one_run (var_run rfl))) rfl (mk_Breaks x1 x2)) (cons_run (makeK_run (cons_run (var_run rfl) (one_run (var_run rfl))) rfl rfl (mk_Breaks x1.push x2.push)) (one_run (lst_run (cons_run c_run (cons_run (var_run rfl) (one_run (var_run rfl)))) (Nat.le_of_ble_eq_true rfl))))) (Nat.le_of_ble_eq_true rfl))
  obtain ⟨st3, s3, L3, g3⟩ := grow (y := row4 e) (b := eTup (aCons (eMake fl "Series" 1 m_Series (aCons (eVar 0) aNil)) (aCons (eMakeK fl "Series" 1 [0] m_Series (aCons (eVar 0) aNil)) (aCons (eLst (aCons (eC (.str "Series")) (aCons (eVar 4) aNil))) aNil)))) L2 g2 (by simp) (by
    rw [eη]
    have x1 := ha.ge L2.ge
    exact tup_run (cons_run (make_run (one_run (var_run rfl)) rfl (mk_Series x1)) (cons_run (makeK_run (one_run (var_run rfl)) rfl rfl (mk_Series x1.push)) (one_run (lst_run (cons_run c_run (one_run (var_run rfl))) (Nat.le_of_ble_eq_true rfl))))) (Nat.le_of_ble_eq_true rfl))
  obtain ⟨st4, s4, L4, g4⟩ := grow (y := row5) (b := eTup (aCons (eMake fl "NoSeries" 1 m_NoSeries (aCons (eC (.str "point")) aNil)) (aCons (eMakeK fl "NoSeries" 1 [0] m_NoSeries (aCons (eC (.str "point")) aNil)) (aCons (eLst (aCons (eC (.str "NoSeries")) (aCons (eC (.str "point")) aNil))) aNil)))) L3 g3 (by simp) (by
    rw [eη]
    exact tup_run (cons_run (make_run (one_run c_run) rfl mk_NoSeries) (cons_run (makeK_run (one_run c_run) rfl rfl mk_NoSeries) (one_run (lst_run (cons_run c_run (one_run c_run)) (Nat.le_of_ble_eq_true rfl))))) (Nat.le_of_ble_eq_true rfl))
  obtain ⟨st5, s5, L5, g5⟩ := grow (y := row6 e f g h) (b := eTup (aCons (eMake fl "Model" 5 m_Model (aCons (eVar 0) (aCons (eVar 1) (aCons (eC (.str "x")) (aCons (eVar 2) (aCons (eVar 3) aNil)))))) (aCons (eMakeK fl "Model" 5 [4, 3, 2, 1, 0] m_Model (aCons (eVar 3) (aCons (eVar 2) (aCons (eC (.str "x")) (aCons (eVar 1) (aCons (eVar 0) aNil)))))) (aCons (eLst (aCons (eC (.str "Model")) (aCons (eVar 4) (aCons (eVar 5) (aCons (eC (.str "x")) (aCons (eVar 6) (aCons (eVar 7) aNil))))))) aNil)))) L4 g4 (by simp) (by
    rw [eη]
    have x1 := ha.ge L4.ge
    have x2 := hb.ge L4.ge
    have x3 := hc.ge L4.ge
    have x4 := hd.ge L4.ge
    exact tup_run (cons_run (make_run (cons_run (var_run rfl) (cons_run (var_run rfl) (cons_run c_run (cons_run (var_run rfl) (one_run (var_run rfl)))))) rfl (mk_Model x1 x2 x3 x4)) (cons_run (makeK_run (cons_run (var_run rfl) (cons_run (var_run rfl) (cons_run c_run (cons_run (var_run rfl) (one_run (var_run rfl)))))) rfl rfl (mk_Model x1.push x2.push x3.push x4.push)) (one_run (lst_run (cons_run c_run (cons_run (var_run rfl) (cons_run (var_run rfl) (cons_run c_run (cons_run (var_run rfl) (one_run (var_run rfl))))))) (Nat.le_of_ble_eq_true rfl))))) (Nat.le_of_ble_eq_true rfl))
  obtain ⟨st6, s6, L6, g6⟩ := grow (y := row7 e f g h) (b := eTup (aCons (eMake fl "Paper" 6 m_Paper (aCons (eVar 0) (aCons (eVar 1) (aCons (eVar 2) (aCons (eVar 3) (aCons (eVar 0) (aCons (eVar 1) aNil))))))) (aCons (eMakeK fl "Paper" 6 [5, 4, 3, 2, 1, 0] m_Paper (aCons (eVar 1) (aCons (eVar 0) (aCons (eVar 3) (aCons (eVar 2) (aCons (eVar 1) (aCons (eVar 0) aNil))))))) (aCons (eLst (aCons (eC (.str "Paper")) (aCons (eVar 4) (aCons (eVar 5) (aCons (eVar 6) (aCons (eVar 7) (aCons (eVar 4) (aCons (eVar 5) aNil)))))))) aNil)))) L5 g5 (by simp) (by
    rw [eη]
    have x1 := ha.ge L5.ge
    have x2 := hb.ge L5.ge
    have x3 := hc.ge L5.ge
    have x4 := hd.ge L5.ge
    exact tup_run (cons_run (make_run (cons_run (var_run rfl) (cons_run (var_run rfl) (cons_run (var_run rfl) (cons_run (var_run rfl) (cons_run (var_run rfl) (one_run (var_run rfl))))))) rfl (mk_Paper x1 x2 x3 x4 x1 x2)) (cons_run (makeK_run (cons_run (var_run rfl) (cons_run (var_run rfl) (cons_run (var_run rfl) (cons_run (var_run rfl) (cons_run (var_run rfl) (one_run (var_run rfl))))))) rfl rfl (mk_Paper x1.push x2.push x3.push x4.push x1.push x2.push)) (one_run (lst_run (cons_run c_run (cons_run (var_run rfl) (cons_run (var_run rfl) (cons_run (var_run rfl) (cons_run (var_run rfl) (cons_run (var_run rfl) (one_run (var_run rfl)))))))) (Nat.le_of_ble_eq_true rfl))))) (Nat.le_of_ble_eq_true rfl))
  refine ⟨r, st6, ?_, g6, L6, hr⟩
  unfold m__law_rows
  refine fn_ret (δ := η) ?_
  have s0 : sAsg (gTupD 4 (gsCons (gSet 4) (gsCons (gSet 5) (gsCons (gSet 6) (gsCons (gSet 7) gsNil))))) (eTup (aCons (eCall 1 m__law_copy (aCons (eVar 0) aNil)) (aCons (eCall 1 m__law_copy (aCons (eVar 1) aNil)) (aCons (eCall 1 m__law_copy (aCons (eVar 2) aNil)) (aCons (eCall 1 m__law_copy (aCons (eVar 3) aNil)) aNil))))) (startD 9 [a, b, c, d]) st = .ok (.next, δ) st := by
    have ht : (eTup (aCons (eCall 1 m__law_copy (aCons (eVar 0) aNil)) (aCons (eCall 1 m__law_copy (aCons (eVar 1) aNil)) (aCons (eCall 1 m__law_copy (aCons (eVar 2) aNil)) (aCons (eCall 1 m__law_copy (aCons (eVar 3) aNil)) aNil))))) [some a, some b, some c, some d, none, none, none, none, none] st = .ok (.tup [e, f, g, h]) st :=
      tup_run (cons_run (call_run (one_run (var_run rfl)) rfl (copy_run ha)) (cons_run (call_run (one_run (var_run rfl)) rfl (copy_run hb)) (cons_run (call_run (one_run (var_run rfl)) rfl (copy_run hc)) (one_run (call_run (one_run (var_run rfl)) rfl (copy_run hd)))))) (Nat.le_of_ble_eq_true rfl)
    show sAsg _ _ [some a, some b, some c, some d, none, none, none, none, none] st = _
    unfold sAsg
    rw [M.ok_bind ht, eδ]
    rfl
  have s1 : ∀ m : EM, m δ st = .ok (.ref r) st1 → sSet 8 m δ st = .ok (.next, η) st1 := fun m hm => by
    rw [set_run hm, eδ, eη]
    rfl
  rw [seq_next s0, seq_next (s1 _ n1), seq_next s2, seq_next s3, seq_next s4, seq_next s5, seq_next s6]
  exact ret_run (var_run (by rw [eη]; rfl))

/-! ### the law -/
def rowD (p : Str × List D) : D := .tup [.ob p.1 p.2, .ob p.1 p.2, .lst (.str p.1 :: p.2)]
def prs (e f g h : D) : List (Str × List D) := [("Count", [.int 3, e]), ("Follows", [e]), ("Breaks", [e, f]), ("Series", [e]), ("NoSeries", [.str "point"]), ("Model", [e, f, .str "x", g, h]), ("Paper", [e, f, g, h, e, f])]
structure RowOk (st : Store) (p : Str × List D) : Prop where
  mem : p.1 ∈ cs
  fld : m__law_fields [.ob p.1 p.2] st = .ok (.lst (.str p.1 :: p.2)) st
  eq : EqOb st (.ob p.1 p.2) (.ob p.1 p.2) true
  rep : ∃ s, fRepr st [.lst (.str p.1 :: p.2)] = some (.str s)
theorem str_ok {x : Str} (h : x ∈ cs ∨ x = "x" ∨ x = "point") {st : Store} : Good st (.str x) := by
  simp only [cs, List.mem_cons, List.not_mem_nil, or_false] at h
  rcases h with (rfl | rfl | rfl | rfl | rfl | rfl | rfl) | rfl | rfl <;> exact good_str (by unfold Shows; decide +kernel)
theorem mem_Count : ("Count" : Str) ∈ cs := by decide
theorem mem_Follows : ("Follows" : Str) ∈ cs := by decide
theorem mem_Breaks : ("Breaks" : Str) ∈ cs := by decide
theorem mem_Series : ("Series" : Str) ∈ cs := by decide
theorem mem_NoSeries : ("NoSeries" : Str) ∈ cs := by decide
theorem mem_Model : ("Model" : Str) ∈ cs := by decide
theorem mem_Paper : ("Paper" : Str) ∈ cs := by decide
theorem rows_ok {st : Store} {e f g h : D} (he : Good st e) (hf : Good st f) (hg : Good st g) (hh : Good st h) : ∀ p ∈ prs e f g h, RowOk st p := by
  have h3 : Good st (.int 3) := good_int (by unfold Shows; decide +kernel)
  have hp : Good st (.str "point") := str_ok (.inr (.inr rfl))
  have hx : Good st (.str "x") := str_ok (.inr (.inl rfl))
  intro p hp'
  simp only [prs, List.mem_cons, List.not_mem_nil, or_false] at hp'
  rcases hp' with rfl | rfl | rfl | rfl | rfl | rfl | rfl
  · refine ⟨mem_Count, rfl, own_ok rfl mem_Count (q_Count h3 he), repr_row ?_ (by simp)⟩
    intro d hd
    simp only [List.mem_cons, List.not_mem_nil, or_false] at hd
    rcases hd with rfl | rfl | rfl
    · exact str_ok (.inl (by decide))
    all_goals assumption
  · refine ⟨mem_Follows, rfl, own_ok rfl mem_Follows (q_Follows he), repr_row ?_ (by simp)⟩
    intro d hd
    simp only [List.mem_cons, List.not_mem_nil, or_false] at hd
    rcases hd with rfl | rfl
    · exact str_ok (.inl (by decide))
    all_goals assumption
  · refine ⟨mem_Breaks, rfl, own_ok rfl mem_Breaks (q_Breaks he hf), repr_row ?_ (by simp)⟩
    intro d hd
    simp only [List.mem_cons, List.not_mem_nil, or_false] at hd
    rcases hd with rfl | rfl | rfl
    · exact str_ok (.inl (by decide))
    all_goals assumption
  · refine ⟨mem_Series, rfl, own_ok rfl mem_Series (q_Series he), repr_row ?_ (by simp)⟩
    intro d hd
    simp only [List.mem_cons, List.not_mem_nil, or_false] at hd
    rcases hd with rfl | rfl
    · exact str_ok (.inl (by decide))
    all_goals assumption
  · refine ⟨mem_NoSeries, rfl, own_ok rfl mem_NoSeries (q_NoSeries hp), repr_row ?_ (by simp)⟩
    intro d hd
    simp only [List.mem_cons, List.not_mem_nil, or_false] at hd
    rcases hd with rfl | rfl
    · exact str_ok (.inl (by decide))
    all_goals assumption
  · refine ⟨mem_Model, rfl, own_ok rfl mem_Model (q_Model he hf hx hg hh), repr_row ?_ (by simp)⟩
    intro d hd
    simp only [List.mem_cons, List.not_mem_nil, or_false] at hd
    rcases hd with rfl | rfl | rfl | rfl | rfl | rfl
    · exact str_ok (.inl (by decide))
    all_goals assumption
  · refine ⟨mem_Paper, rfl, own_ok rfl mem_Paper (q_Paper he hf hg hh he hf), repr_row ?_ (by simp)⟩
    intro d hd
    simp only [List.mem_cons, List.not_mem_nil, or_false] at hd
    rcases hd with rfl | rfl | rfl | rfl | rfl | rfl | rfl
    · exact str_ok (.inl (by decide))
    all_goals assumption
theorem ne_str {st : Store} {s : Str} : fNe st (.str s) (.str s) = some (.bl false) := by
  unfold fNe scalD
  simp
theorem eqD_str {st : Store} {s : Str} : fEqD st (.str s) (.str s) = some (.bl true) := by
  unfold fEqD fEq scalD
  simp
theorem e2M_run {F : D → D → M D} {a b : EM} {δ : DEnv} {st st1 st2 st3 : Store} {x y v : D} (ha : a δ st = .ok x st1) (hb : b δ st1 = .ok y st2) (h : F x y st2 = .ok v st3) : e2M F a b δ st = .ok v st3 := by
  unfold e2M
  rw [M.ok_bind ha, M.ok_bind hb, h]
/-- a walk through a list of the store that changes nothing -/
theorem for_const {r : Nat} {all : List D} {g : GM} {body : SM} {st : Store} {P : DEnv → Prop} (h : st[r]? = some (.lst all)) : ∀ (ds : List D) (δ : DEnv), P δ → (∀ d ∈ ds, ∀ δ, P δ → ∃ δ1 δ2, g d δ = some δ1 ∧ body δ1 st = .ok (.next, δ2) st ∧ P δ2) → ∃ δ', forL (some r) all g body ds δ st = .ok (.next, δ') st ∧ P δ'
  | [], δ, p, _ => ⟨δ, by unfold forL chk; dsimp only; rw [if_pos h]; rfl, p⟩
  | d :: ds, δ, p, hs => by
    obtain ⟨δ1, δ2, h1, h2, h3⟩ := hs d List.mem_cons_self δ p
    obtain ⟨δ', h4, h5⟩ := for_const h ds δ2 h3 fun d hd => hs d (List.mem_cons_of_mem _ hd)
    refine ⟨δ', ?_, h5⟩
    unfold forL chk
    dsimp only
    rw [if_pos h, h1]
    dsimp only
    rw [M.ok_bind h2]
    exact h4

theorem wt_ok {st : Store} {r : Nat} {e f g h : D} (hr : st[r]? = some (.lst ((prs e f g h).map rowD))) {i : Nat} {p : Str × List D} (hp : (prs e f g h)[i]? = some p) {m : EM} {δ : DEnv} {st0 : Store} {k : Int} (hm : m δ st0 = .ok (.int k) st) (hk : k = (i : Int)) {η : EM} (hη : η δ st0 = .ok (.ref r) st0) :
    e2 fItem (e2 fItem η m) (eC (.int 0)) δ st0 = .ok (.ob p.1 p.2) st := by
  refine e2_run (x := rowD p) (y := .int 0) (e2_run hη hm ?_) c_run (item_run (xs := [.ob p.1 p.2, .ob p.1 p.2, .lst (.str p.1 :: p.2)]) rfl (by decide) rfl)
  refine item_run (xs := (prs e f g h).map rowD) (by simp [seqOf, hr]) (by omega) ?_
  rw [hk, List.getElem?_map, Int.toNat_natCast, hp]
  rfl
theorem names_nodup : cs.Nodup := by decide
theorem prs_names (e f g h : D) : (prs e f g h).map (·.1) = cs := rfl
theorem prs_ne {e f g h : D} {i j : Nat} {p p' : Str × List D} (hp : (prs e f g h)[i]? = some p) (hp' : (prs e f g h)[j]? = some p') (hij : i ≠ j) : p'.1 ≠ p.1 := fun z => by
  have h1 : cs[i]? = some p.1 := by rw [← prs_names e f g h, List.getElem?_map, hp]; rfl
  have h2 : cs[j]? = some p'.1 := by rw [← prs_names e f g h, List.getElem?_map, hp']; rfl
  obtain ⟨l1, q1⟩ := List.getElem?_eq_some_iff.mp h1
  obtain ⟨l2, q2⟩ := List.getElem?_eq_some_iff.mp h2
  exact hij ((List.getElem_inj names_nodup).mp (q1.trans (z.symm.trans q2.symm)))
theorem prs_mem {e f g h : D} {i : Nat} {p : Str × List D} (hp : (prs e f g h)[i]? = some p) : p.1 ∈ cs := by
  rw [← prs_names e f g h]
  exact List.mem_map_of_mem (List.mem_of_getElem? hp)
/-- the slots of the law -/
abbrev env (sc a b c d va r x8 x9 x10 x11 x12 x13 x14 : Option D) : DEnv := [sc, some (.ref 0), va, a, b, c, d, r, x8, x9, x10, x11, x12, x13, x14]
noncomputable abbrev body2 : SM := (sSeq (sSet 12 (e2 fItem (e2 fItem (eVar 7) (e2 fMod (eN fInt (aCons (e2 fPlus (e2 fPlus (eVar 11) (eC (.int 1))) (eCall 2 m__law_draw (aCons (eVar 1) (aCons (e2 fSub (eN fLen (aCons (eVar 7) aNil)) (eC (.int 1))) aNil)))) aNil)) (eN fLen (aCons (eVar 7) aNil)))) (eC (.int 0))))
 (sIf (tOrM (tOf (e2M (fOwn tblEq cs fEqD) (e2 fItem (e2 fItem (eVar 7) (eVar 11)) (eC (.int 0))) (eVar 12))) (tNotM (tOf (e2M (fOwn tblNe cs fNe) (e2 fItem (e2 fItem (eVar 7) (eVar 11)) (eC (.int 0))) (eVar 12)))))
 (sRet (eC (.bl false)))
 sNil))
theorem turn2 {sc a b c d va x8 x9 x10 x11 x12 x13 x14 : Option D} {st : Store} {p : Pen} {cn : Int} {r : Nat} {e f g h : D} {k : Nat} (hk : k < 7) (hr0 : r ≠ 0) (hp : st[0]? = some p.so) (ok : PenOk cn p) (hc : cn ≤ 10 ^ 11) (hr : st[r]? = some (.lst ((prs e f g h).map rowD))) :
    ∃ p' y, PenOk (cn + 1) p' ∧ body2 (env sc a b c d va (some (.ref r)) x8 x9 x10 (some (.int k)) x12 x13 x14) st = .ok (.next, env sc a b c d va (some (.ref r)) x8 x9 x10 (some (.int k)) y x13 x14) (st.set 0 p'.so) := by
  obtain ⟨ok', d0, d1⟩ := ok.drawn (many := 6) (by decide)
  have dr := draw_run hp ok (by omega) (many := 6) (by decide) (by decide)
  generalize (p.drawn 6).1 = x at d0 d1 dr
  generalize (p.drawn 6).2 = p' at ok' dr
  have hr' : (st.set 0 p'.so)[r]? = some (.lst ((prs e f g h).map rowD)) := by rw [List.getElem?_set_ne (Ne.symm hr0)]; exact hr
  have len7 : ∀ st : Store, st[r]? = some (.lst ((prs e f g h).map rowD)) → fLen st [.ref r] = some (.int 7) := fun st hr => by
    rw [len_run (xs := (prs e f g h).map rowD) (by simp [seqOf, hr])]
    rfl
  obtain ⟨j, hj⟩ : ∃ j : Nat, ((k : Int) + 1 + x).fmod 7 = (j : Int) := ⟨(((k : Int) + 1 + x).fmod 7).toNat, by
    have := Int.fmod_nonneg_of_pos ((k : Int) + 1 + x) (show (0 : Int) < 7 by decide)
    omega⟩
  have hj7 : j < 7 := by
    have := Int.fmod_lt_of_pos ((k : Int) + 1 + x) (show (0 : Int) < 7 by decide)
    omega
  have hjk : k ≠ j := by
    rw [Int.fmod_eq_emod_of_nonneg _ (by decide)] at hj
    omega
  have l7 : (prs e f g h).length = 7 := rfl
  obtain ⟨pk, hpk⟩ : ∃ pk, (prs e f g h)[k]? = some pk := ⟨_, List.getElem?_eq_getElem (by omega)⟩
  obtain ⟨pj, hpj⟩ : ∃ pj, (prs e f g h)[j]? = some pj := ⟨_, List.getElem?_eq_getElem (by omega)⟩
  have E := eq_other (ds := pk.2) (es := pj.2) (st := st.set 0 p'.so) (prs_mem hpk) (prs_mem hpj) (prs_ne hpk hpj hjk)
  have N := ne_of_eq (prs_mem hpk) (prs_mem hpj) E
  refine ⟨p', some (.ob pj.1 pj.2), ok', ?_⟩
  have s1 : sSet 12 (e2 fItem (e2 fItem (eVar 7) (e2 fMod (eN fInt (aCons (e2 fPlus (e2 fPlus (eVar 11) (eC (.int 1))) (eCall 2 m__law_draw (aCons (eVar 1) (aCons (e2 fSub (eN fLen (aCons (eVar 7) aNil)) (eC (.int 1))) aNil)))) aNil)) (eN fLen (aCons (eVar 7) aNil)))) (eC (.int 0))) (env sc a b c d va (some (.ref r)) x8 x9 x10 (some (.int k)) x12 x13 x14) st = .ok (.next, env sc a b c d va (some (.ref r)) x8 x9 x10 (some (.int k)) (some (.ob pj.1 pj.2)) x13 x14) (st.set 0 p'.so) := by
    refine set_run (wt_ok hr' hpj (k := ((k : Int) + 1 + x).fmod 7) ?_ hj (var_run rfl))
    exact e2_run (eN_run (one_run (e2_run (e2_run (var_run rfl) c_run x_plus) (call_run (cons_run (var_run rfl) (one_run (e2_run (eN_run (one_run (var_run rfl)) (len7 st hr)) c_run x_sub))) rfl dr) x_plus)) x_int) (eN_run (one_run (var_run rfl)) (len7 _ hr')) (x_mod (by decide))
  unfold body2
  rw [seq_next s1]
  have i1 : ∀ tb F v, fOwn tb cs F (.ob pk.1 pk.2) (.ob pj.1 pj.2) (st.set 0 p'.so) = .ok (.bl v) (st.set 0 p'.so) → tOf (e2M (fOwn tb cs F) (e2 fItem (e2 fItem (eVar 7) (eVar 11)) (eC (.int 0))) (eVar 12)) (env sc a b c d va (some (.ref r)) x8 x9 x10 (some (.int k)) (some (.ob pj.1 pj.2)) x13 x14) (st.set 0 p'.so) = .ok v (st.set 0 p'.so) := fun tb F v hv =>
    tOf_run (e2M_run (wt_ok hr' hpk (k := (k : Int)) (var_run rfl) rfl (var_run rfl)) (var_run rfl) hv)
  rw [if_not ((or_not (i1 _ _ _ E)).trans (not_run (i1 _ _ _ N)))]
  rfl

theorem loop2 {sc a b c d va x8 x9 x10 x13 x14 : Option D} {r : Nat} {e f g h : D} (all : List D) (hr0 : r ≠ 0) : ∀ (ks : List Nat) (x11 x12 : Option D) (st : Store) (p : Pen) (cn : Int), (∀ k ∈ ks, k < 7) → st[0]? = some p.so → PenOk cn p → cn + ks.length ≤ 10 ^ 11 → st[r]? = some (.lst ((prs e f g h).map rowD)) →
    ∃ y11 y12 p' , forL none all (gSet 11) body2 (ks.map fun (k : Nat) => D.int k) (env sc a b c d va (some (.ref r)) x8 x9 x10 x11 x12 x13 x14) st = .ok (.next, env sc a b c d va (some (.ref r)) x8 x9 x10 y11 y12 x13 x14) (st.set 0 p'.so) ∧ PenOk (cn + ks.length) p'
  | [], x11, x12, st, p, cn, _, hp, ok, hc, hr => by
    refine ⟨x11, x12, p, ?_, by simpa using ok⟩
    have e1 : st.set 0 p.so = st := by
      apply List.ext_getElem?
      intro i
      by_cases hi : 0 = i
      · subst hi
        rw [List.getElem?_set_self (List.getElem?_eq_some_iff.mp hp).1, hp]
      · rw [List.getElem?_set_ne hi]
    rw [e1]
    rfl
  | k :: ks, x11, x12, st, p, cn, hk, hp, ok, hc, hr => by
    rw [List.length_cons] at hc
    obtain ⟨p1, y, ok1, run⟩ := turn2 (sc := sc) (a := a) (b := b) (c := c) (d := d) (va := va) (x8 := x8) (x9 := x9) (x10 := x10) (x11 := x11) (x12 := x12) (x13 := x13) (x14 := x14) (hk k List.mem_cons_self) hr0 hp ok (by omega) hr
    have hp1 : (st.set 0 p1.so)[0]? = some p1.so := List.getElem?_set_self (List.getElem?_eq_some_iff.mp hp).1
    have hr1 : (st.set 0 p1.so)[r]? = some (.lst ((prs e f g h).map rowD)) := by rw [List.getElem?_set_ne (Ne.symm hr0)]; exact hr
    obtain ⟨y11, y12, p', h1, h2⟩ := loop2 all hr0 ks (some (.int k)) y (st.set 0 p1.so) p1 (cn + 1) (fun k hk' => hk k (List.mem_cons_of_mem _ hk')) hp1 ok1 (by omega) hr1
    rw [List.set_set] at h1
    refine ⟨y11, y12, p', ?_, ?_⟩
    · rw [List.map_cons]
      unfold forL
      rw [chk_none]
      show (body2 (env sc a b c d va (some (.ref r)) x8 x9 x10 (some (.int k)) x12 x13 x14) >>= _) st = _
      rw [M.ok_bind run]
      exact h1
    · rw [List.length_cons]
      have : cn + ((ks.length + 1 : Nat) : Int) = cn + 1 + (ks.length : Int) := by omega
      rw [this]
      exact h2
noncomputable abbrev body1 : SM := (sIf (tOrM (tOf (e2 fNe (eN fRepr (aCons (eCall 1 m__law_fields (aCons (eVar 8) aNil)) aNil)) (eN fRepr (aCons (eVar 10) aNil)))) (tOrM (tOf (e2 fNe (eN fRepr (aCons (eCall 1 m__law_fields (aCons (eVar 9) aNil)) aNil)) (eN fRepr (aCons (eVar 10) aNil)))) (tOrM (tOf (e2M (fOwn tblNe cs fNe) (eVar 8) (eVar 9))) (tNotM (tOf (e2M (fOwn tblEq cs fEqD) (eVar 8) (eVar 9)))))))
 (sRet (eC (.bl false)))
 sNil)
theorem turn1 {sc a b c d va r x11 x12 x13 x14 : Option D} {st : Store} {p : Str × List D} (ok : RowOk st p) :
    body1 (env sc a b c d va r (some (.ob p.1 p.2)) (some (.ob p.1 p.2)) (some (.lst (.str p.1 :: p.2))) x11 x12 x13 x14) st = .ok (.next, env sc a b c d va r (some (.ob p.1 p.2)) (some (.ob p.1 p.2)) (some (.lst (.str p.1 :: p.2))) x11 x12 x13 x14) st := by
  obtain ⟨s, hs⟩ := ok.rep
  have N := ne_of_eq ok.mem ok.mem ok.eq
  have t1 : ∀ (i : Nat) (δ : DEnv), δ[i]? = some (some (.ob p.1 p.2)) → δ[10]? = some (some (.lst (.str p.1 :: p.2))) → tOf (e2 fNe (eN fRepr (aCons (eCall 1 m__law_fields (aCons (eVar i) aNil)) aNil)) (eN fRepr (aCons (eVar 10) aNil))) δ st = .ok false st := fun i δ h1 h2 =>
    tOf_run (e2_run (eN_run (one_run (call_run (one_run (var_run h1)) rfl ok.fld)) hs) (eN_run (one_run (var_run h2)) hs) ne_str)
  unfold body1
  rw [if_not ((or_not (t1 8 _ rfl rfl)).trans ((or_not (t1 9 _ rfl rfl)).trans ((or_not (tOf_run (e2M_run (var_run rfl) (var_run rfl) N))).trans (not_run (tOf_run (e2M_run (var_run rfl) (var_run rfl) ok.eq))))))]
  rfl
theorem loop1 {sc a b c d va x11 x12 x13 x14 : Option D} {st : Store} {r : Nat} {e f g h : D} (hr : st[r]? = some (.lst ((prs e f g h).map rowD))) (ok : ∀ p ∈ prs e f g h, RowOk st p) :
    ∃ x8 x9 x10, sFor (itSeq (eVar 7)) (gTupD 3 (gsCons (gSet 8) (gsCons (gSet 9) (gsCons (gSet 10) gsNil)))) body1 (env sc a b c d va (some (.ref r)) none none none x11 x12 x13 x14) st = .ok (.next, env sc a b c d va (some (.ref r)) x8 x9 x10 x11 x12 x13 x14) st := by
  have hit : itSeq (eVar 7) (env sc a b c d va (some (.ref r)) none none none x11 x12 x13 x14) st = .ok ((prs e f g h).map rowD, some r) st := by
    unfold itSeq
    rw [M.ok_bind (var_run (d := .ref r) rfl)]
    dsimp only
    rw [hr]
  obtain ⟨δ', h1, x8, x9, x10, rfl⟩ := for_const (g := gTupD 3 (gsCons (gSet 8) (gsCons (gSet 9) (gsCons (gSet 10) gsNil)))) (body := body1) (P := fun δ => ∃ x8 x9 x10, δ = env sc a b c d va (some (.ref r)) x8 x9 x10 x11 x12 x13 x14) hr ((prs e f g h).map rowD) (env sc a b c d va (some (.ref r)) none none none x11 x12 x13 x14) ⟨_, _, _, rfl⟩ (by
    rintro t ht δ ⟨x8, x9, x10, rfl⟩
    obtain ⟨p, hp, rfl⟩ := List.mem_map.mp ht
    exact ⟨env sc a b c d va (some (.ref r)) (some (.ob p.1 p.2)) (some (.ob p.1 p.2)) (some (.lst (.str p.1 :: p.2))) x11 x12 x13 x14, _, rfl, turn1 (ok p hp), _, _, _, rfl⟩)
  refine ⟨x8, x9, x10, ?_⟩
  unfold sFor
  rw [M.ok_bind hit]
  exact h1

/-! ### two that are not alike -/
theorem fx {st : Store} {v : D} (h : v ∈ fixed) : AOk st v v := .nl (.fix h)
theorem pair_no {c : Str} {n : Nat} {m : List D → M D} {a b : AM} {δ : DEnv} {st : Store} {ds es : List D} {xs ys : List D} (ha : a δ st = .ok ds st) (hb : ∀ st : Store, b δ st = .ok es st) (l1 : ds.length = n) (l2 : es.length = n) (h1 : mk fl c m ds st = .ok (.ob c xs) (st ++ [.dead])) (h2 : mk fl c m es (st ++ [.dead]) = .ok (.ob c ys) (st ++ [.dead] ++ [.dead]))
    (h : fOwn tblEq cs fEqD (.ob c xs) (.ob c ys) (st ++ [.dead] ++ [.dead]) = .ok (.bl false) (st ++ [.dead] ++ [.dead])) :
    tOf (e2M (fOwn tblEq cs fEqD) (eMake fl c n m a) (eMake fl c n m b)) δ st = .ok false (st ++ [.dead] ++ [.dead]) :=
  tOf_run (e2M_run (make_run ha l1 h1) (make_run (hb _) l2 h2) h)
theorem fx0 {st : Store} : AOk st (.tup []) (.tup []) := fx (by simp [fixed])
theorem fx1 {st : Store} : AOk st (.tup [.int 1]) (.tup [.int 1]) := fx (by simp [fixed])
theorem fx2 {st : Store} : AOk st (.tup [.int 2]) (.tup [.int 2]) := fx (by simp [fixed])
theorem fx3 {st : Store} : AOk st (.int 1) (.int 1) := fx (by simp [fixed])
theorem fx4 {st : Store} : AOk st (.int 2) (.int 2) := fx (by simp [fixed])
section
variable {δ : DEnv} {st : Store}
theorem no1 : tOf (e2M (fOwn tblEq cs fEqD) (eMake fl "Count" 2 m_Count (aCons (eC (.int 0)) (aCons (eTup (aCons (eC (.int 1)) aNil)) aNil))) (eMake fl "Count" 2 m_Count (aCons (eC (.int 0)) (aCons (eTup (aCons (eC (.int 2)) aNil)) aNil)))) δ st = .ok false (st ++ [.dead] ++ [.dead]) :=
  pair_no rfl (fun _ => rfl) rfl rfl (mk_Count 0 fx1) (mk_Count 0 fx2) rfl
theorem no2 : tOf (e2M (fOwn tblEq cs fEqD) (eMake fl "Follows" 1 m_Follows (aCons (eTup aNil) aNil)) (eMake fl "Follows" 1 m_Follows (aCons (eTup (aCons (eC (.int 1)) aNil)) aNil))) δ st = .ok false (st ++ [.dead] ++ [.dead]) :=
  pair_no rfl (fun _ => rfl) rfl rfl (mk_Follows fx0) (mk_Follows fx1) rfl
theorem no3 : tOf (e2M (fOwn tblEq cs fEqD) (eMake fl "Breaks" 2 m_Breaks (aCons (eTup aNil) (aCons (eC (.int 1)) aNil))) (eMake fl "Breaks" 2 m_Breaks (aCons (eTup aNil) (aCons (eC (.int 2)) aNil)))) δ st = .ok false (st ++ [.dead] ++ [.dead]) :=
  pair_no rfl (fun _ => rfl) rfl rfl (mk_Breaks fx0 fx3) (mk_Breaks fx0 fx4) rfl
theorem no4 : tOf (e2M (fOwn tblEq cs fEqD) (eMake fl "Series" 1 m_Series (aCons (eTup aNil) aNil)) (eMake fl "Series" 1 m_Series (aCons (eTup (aCons (eC (.int 1)) aNil)) aNil))) δ st = .ok false (st ++ [.dead] ++ [.dead]) :=
  pair_no rfl (fun _ => rfl) rfl rfl (mk_Series fx0) (mk_Series fx1) rfl
theorem no5 : tOf (e2M (fOwn tblEq cs fEqD) (eMake fl "NoSeries" 1 m_NoSeries (aCons (eC (.str "point")) aNil)) (eMake fl "NoSeries" 1 m_NoSeries (aCons (eC (.str "start")) aNil))) δ st = .ok false (st ++ [.dead] ++ [.dead]) :=
  pair_no rfl (fun _ => rfl) rfl rfl mk_NoSeries mk_NoSeries rfl
theorem xy_no : fEqD st (.tup [.tup [], .tup [], .str "x", .tup [], .tup []]) (.tup [.tup [], .tup [], .str "y", .tup [], .tup []]) = some (.bl false) := by
  have hp : fEqP st (.tup [.tup [], .tup [], .str "x", .tup [], .tup []]) (.tup [.tup [], .tup [], .str "y", .tup [], .tup []]) = some (.bl false) := by
    show (if SeqAt.shaped (.tuple [.tuple [], .tuple [], .str "x", .tuple [], .tuple []]) = true ∧ SeqAt.shaped (.tuple [.tuple [], .tuple [], .str "y", .tuple [], .tuple []]) = true then some (D.bl (PyData.eqv (.tuple [.tuple [], .tuple [], .str "x", .tuple [], .tuple []]) (.tuple [.tuple [], .tuple [], .str "y", .tuple [], .tuple []]))) else none) = some (.bl false)
    rw [if_pos (by decide +kernel)]
    have e : PyData.eqv (.tuple [.tuple [], .tuple [], .str "x", .tuple [], .tuple []]) (.tuple [.tuple [], .tuple [], .str "y", .tuple [], .tuple []]) = false := by decide +kernel
    rw [e]
  unfold fEqD fEq
  rw [show scalD (.tup [.tup [], .tup [], .str "x", .tup [], .tup []]) (.tup [.tup [], .tup [], .str "y", .tup [], .tup []]) = none from rfl, hp]
theorem q_no : m_Model___eq__ [.ob "Model" [.tup [], .tup [], .str "x", .tup [], .tup []], .ob "Model" [.tup [], .tup [], .str "y", .tup [], .tup []]] st = .ok (.bl false) st := by
  unfold m_Model___eq__
  refine fn_ret (δ := [some (.ob "Model" [.tup [], .tup [], .str "x", .tup [], .tup []]), some (.ob "Model" [.tup [], .tup [], .str "y", .tup [], .tup []])]) (ret_run ?_)
  refine (eAnd_yes (isi_yes rfl mem_Model)).trans ?_
  exact e2_run (call_run (one_run (var_run rfl)) rfl key_Model) (call_run (one_run (var_run rfl)) rfl key_Model) xy_no
theorem no6 : tOf (e2M (fOwn tblEq cs fEqD) (eMake fl "Model" 5 m_Model (aCons (eTup aNil) (aCons (eTup aNil) (aCons (eC (.str "x")) (aCons (eTup aNil) (aCons (eTup aNil) aNil)))))) (eMake fl "Model" 5 m_Model (aCons (eTup aNil) (aCons (eTup aNil) (aCons (eC (.str "y")) (aCons (eTup aNil) (aCons (eTup aNil) aNil))))))) δ st = .ok false (st ++ [.dead] ++ [.dead]) :=
  pair_no rfl (fun _ => rfl) rfl rfl (mk_Model fx0 fx0 fx0 fx0) (mk_Model fx0 fx0 fx0 fx0) (own_ok rfl mem_Model q_no)
end
theorem value4 {st : Store} {p : Pen} {c : Int} {δ : DEnv} (h : st[0]? = some p.so) (ok : PenOk c p) (hc : c ≤ 10 ^ 10) (hl : δ.length = 15) (hd : δ[1]? = some (some (.ref 0))) :
    ∃ v1 v2 v3 v4 p' st', eComp [11] (itRange1 (eC (.int 4))) (gSet 11) tYesM (eCall 1 m__law_value (aCons (eVar 1) aNil)) δ st = .ok (.lst [v1, v2, v3, v4]) st' ∧ st'[0]? = some p'.so ∧ PenOk (c + 16) p' ∧ VOk st' v1 ∧ VOk st' v2 ∧ VOk st' v3 ∧ VOk st' v4 := by
  have e : ∀ k : Int, ((wipeD δ [11]).set 11 (some (.int k)))[1]? = some (some (.ref 0)) := fun k => by
    show (((δ.set 11 none)).set 11 (some (.int k)))[1]? = _
    rw [List.getElem?_set_ne (by decide), List.getElem?_set_ne (by decide)]
    exact hd
  obtain ⟨v1, p1, st1, r1, h1, o1, g1, k1⟩ := value_run h ok (by omega)
  obtain ⟨v2, p2, st2, r2, h2, o2, g2, k2⟩ := value_run h1 o1 (by omega)
  obtain ⟨v3, p3, st3, r3, h3, o3, g3, k3⟩ := value_run h2 o2 (by omega)
  obtain ⟨v4, p4, st4, r4, h4, o4, g4, k4⟩ := value_run h3 o3 (by omega)
  refine ⟨v1, v2, v3, v4, p4, st4, ?_, h4, ?_, k1.ge ((g2.trans g3).trans g4), k2.ge (g3.trans g4), k3.ge g4, k4⟩
  · refine comp_run (ds := [.int 0, .int 1, .int 2, .int 3]) (st0 := st) rfl (by decide) ?_
    refine compL_cons rfl (call_run (one_run (var_run (e 0))) rfl r1) ?_
    refine compL_cons rfl (call_run (one_run (var_run (e 1))) rfl r2) ?_
    refine compL_cons rfl (call_run (one_run (var_run (e 2))) rfl r3) ?_
    refine compL_cons rfl (call_run (one_run (var_run (e 3))) rfl r4) ?_
    exact compL_nil
  · have : c + 4 + 4 + 4 + 4 = c + 16 := by omega
    rw [← this]
    exact o4
theorem arg4 {st : Store} {δ : DEnv} {v1 v2 v3 v4 : D} (hl : δ.length = 15) (hd : δ[2]? = some (some (.lst [v1, v2, v3, v4]))) (hp : 0 < st.length) (k1 : VOk st v1) (k2 : VOk st v2) (k3 : VOk st v3) (k4 : VOk st v4) :
    ∃ a b c d e f g h st', eComp [14] (itSeq (eVar 2)) (gSet 14) tYesM (eIf (tOf (eIsi isi_list (eVar 14))) (eListN (aCons (eVar 14) aNil)) (eVar 14)) δ st = .ok (.lst [a, b, c, d]) st' ∧ Le st st' ∧ AOk st' a e ∧ AOk st' b f ∧ AOk st' c g ∧ AOk st' d h := by
  have e14 : ∀ v : D, ((wipeD δ [14]).set 14 (some v))[14]? = some (some v) := fun v => by
    show (((δ.set 14 none)).set 14 (some v))[14]? = _
    exact List.getElem?_set_self (by rw [List.length_set]; omega)
  have le : ∀ {st st' : Store}, (st' = st ∨ ∃ x, st' = st ++ [x]) → Le st st' := fun h => by
    rcases h with rfl | ⟨x, rfl⟩
    · exact Le.refl
    · exact Le.push
  obtain ⟨a, e, st1, r1, g1, h1⟩ := arg_run (e14 v1) hp k1
  have L1 := le g1
  obtain ⟨b, f, st2, r2, g2, h2⟩ := arg_run (e14 v2) (by have := L1.len; omega) (k2.ge L1.ge)
  have L2 := le g2
  obtain ⟨c, g, st3, r3, g3, h3⟩ := arg_run (e14 v3) (by have := L1.len; have := L2.len; omega) ((k3.ge L1.ge).ge L2.ge)
  have L3 := le g3
  obtain ⟨d, h, st4, r4, g4, h4⟩ := arg_run (e14 v4) (by have := L1.len; have := L2.len; have := L3.len; omega) (((k4.ge L1.ge).ge L2.ge).ge L3.ge)
  have L4 := le g4
  refine ⟨a, b, c, d, e, f, g, h, st4, ?_, ((L1.trans L2).trans L3).trans L4, h1.ge ((L2.trans L3).trans L4).ge, h2.ge (L3.trans L4).ge, h3.ge L4.ge, h4⟩
  have hit : itSeq (eVar 2) δ st = .ok ([v1, v2, v3, v4], none) st := by
    unfold itSeq
    rw [M.ok_bind (var_run hd)]
  refine comp_run hit (Nat.le_of_ble_eq_true rfl) ?_
  refine compL_cons rfl r1 ?_
  refine compL_cons rfl r2 ?_
  refine compL_cons rfl r3 ?_
  refine compL_cons rfl r4 ?_
  exact compL_nil
theorem repr_items {st st' : Store} {items : List D} (h : LsI items) : fRepr st [.tup items] = fRepr st' [.tup items] := by
  cases h <;> rfl
theorem law_holds (ns : List Int) (hl : ns.length ≤ 63) : ∃ st', m_law [.scr ns] [] = .ok (.bl true) st' := by
  obtain ⟨p0, ok0, _, r0⟩ := pen_run (st := []) (ns := ns) (by omega)
  have h0 : ([] ++ [p0.so] : Store)[0]? = some p0.so := rfl
  obtain ⟨v1, v2, v3, v4, p1, st1, r1, h1, ok1, k1, k2, k3, k4⟩ := value4 (δ := env (some (.scr ns)) none none none none none none none none none none none none none) h0 ok0 (by decide) rfl rfl
  obtain ⟨a, b, c, d, e, f, g, h, st2, r2, L2, A1, A2, A3, A4⟩ := arg4 (δ := env (some (.scr ns)) none none none none (some (.lst [v1, v2, v3, v4])) none none none none none none none none) rfl rfl (List.getElem?_eq_some_iff.mp h1).1 k1 k2 k3 k4
  have h2 : st2[0]? = some p1.so := L2 _ _ h1
  obtain ⟨r, st3, r3, hr, L3, hrl⟩ := rows_run A1 A2 A3 A4
  have h3 : st3[0]? = some p1.so := L3 _ _ h2
  have hr0 : r ≠ 0 := by
    have := (List.getElem?_eq_some_iff.mp h2).1
    omega
  have hr3 : st3[r]? = some (.lst ((prs e f g h).map rowD)) := hr
  have B1 := A1.ge L3.ge
  obtain ⟨x8, x9, x10, r4⟩ := loop1 (sc := some (.scr ns)) (a := some a) (b := some b) (c := some c) (d := some d) (va := some (.lst [v1, v2, v3, v4])) (x11 := none) (x12 := none) (x13 := none) (x14 := none) hr3 (rows_ok B1.good (A2.ge L3.ge).good (A3.ge L3.ge).good (A4.ge L3.ge).good)
  obtain ⟨y11, y12, p2, r5, ok2⟩ := loop2 (sc := some (.scr ns)) (a := some a) (b := some b) (c := some c) (d := some d) (va := some (.lst [v1, v2, v3, v4])) (x8 := x8) (x9 := x9) (x10 := x10) (x13 := none) (x14 := none) (rangeD 0 7) hr0 [0, 1, 2, 3, 4, 5, 6] none none st3 p1 (0 + 16) (by decide) h3 ok1 (by decide) hr3
  obtain ⟨st4, e4⟩ : ∃ st4, st4 = st3.set 0 p2.so := ⟨_, rfl⟩
  rw [← e4] at r5
  have hr4 : st4[r]? = some (.lst ((prs e f g h).map rowD)) := by rw [e4, List.getElem?_set_ne (Ne.symm hr0)]; exact hr3
  have G4 : Ge st3 st4 := by rw [e4]; exact Ge.pen
  have C1 := B1.ge G4
  have E1 : ∀ m : EM, (eVar 0 : EM) = eVar 0 := fun _ => rfl
  -- the rest of the store
  obtain ⟨st5, e5⟩ : ∃ st5, st5 = st4 ++ [SO.dead] ++ [SO.dead] ++ [SO.dead] ++ [SO.dead] ++ [SO.dead] ++ [SO.dead] ++ [SO.dead] ++ [SO.dead] := ⟨_, rfl⟩
  obtain ⟨st6, e6⟩ : ∃ st6, st6 = st5 ++ [SO.dead] ++ [SO.dead] ++ [SO.dead] ++ [SO.dead] := ⟨_, rfl⟩
  have L5 : Le st4 st5 := by rw [e5]; exact (((((((Le.push.trans Le.push).trans Le.push).trans Le.push).trans Le.push).trans Le.push).trans Le.push).trans Le.push)
  have L6 : Le st5 st6 := by rw [e6]; exact (((Le.push.trans Le.push).trans Le.push).trans Le.push)
  have hr6 : st6[r]? = some (.lst ((prs e f g h).map rowD)) := L6 _ _ (L5 _ _ hr4)
  have D1 := (C1.ge L5.ge).ge L6.ge
  obtain ⟨s, hs⟩ := repr_one D1.good
  have ops : ∀ (st : Store) (x13 : Option D), st[r]? = some (.lst ((prs e f g h).map rowD)) → e1 (fFld fl cs_ops "ops") (e2 fItem (e2 fItem (eVar 7) (eC (.int 1))) (eC (.int 0))) (env (some (.scr ns)) (some a) (some b) (some c) (some d) (some (.lst [v1, v2, v3, v4])) (some (.ref r)) x8 x9 x10 y11 y12 x13 none) st = .ok e st := fun st x13 hr =>
    fldE (c := "Follows") (ds := [e]) (wt_ok hr (i := 1) (p := ("Follows", [e])) rfl (k := 1) c_run rfl (var_run rfl)) (by decide) rfl
  have main : ∀ st7 : Store, (sIf (tOf (eIsi isi_list (eVar 3))) (sEx (eApp (eVar 3) (eC (.int 7)))) sNil) (env (some (.scr ns)) (some a) (some b) (some c) (some d) (some (.lst [v1, v2, v3, v4])) (some (.ref r)) x8 x9 x10 y11 y12 (some (.str s)) none) st6 = .ok (.next, env (some (.scr ns)) (some a) (some b) (some c) (some d) (some (.lst [v1, v2, v3, v4])) (some (.ref r)) x8 x9 x10 y11 y12 (some (.str s)) none) st7 → st7[r]? = some (.lst ((prs e f g h).map rowD)) → fRepr st7 [e] = some (.str s) → ∃ st', m_law [.scr ns] [] = .ok (.bl true) st' := by
    intro st7 hif hr7 hs7
    refine ⟨st7, ?_⟩
    unfold m_law
    refine fn_ret (δ := env (some (.scr ns)) (some a) (some b) (some c) (some d) (some (.lst [v1, v2, v3, v4])) (some (.ref r)) x8 x9 x10 y11 y12 (some (.str s)) none) ?_
    have t1 : sSet 1 (eCall 1 m__law_pen (aCons (eVar 0) aNil)) (startD 15 [.scr ns]) [] = .ok (.next, env (some (.scr ns)) none none none none none none none none none none none none none) ([] ++ [p0.so]) := set_run (call_run (one_run (var_run rfl)) rfl r0)
    have t2 : sSet 2 (eComp [11] (itRange1 (eC (.int 4))) (gSet 11) tYesM (eCall 1 m__law_value (aCons (eVar 1) aNil))) (env (some (.scr ns)) none none none none none none none none none none none none none) ([] ++ [p0.so]) = .ok (.next, env (some (.scr ns)) none none none none (some (.lst [v1, v2, v3, v4])) none none none none none none none none) st1 := set_run r1
    have t3 : sAsg (gLstD 4 (gsCons (gSet 3) (gsCons (gSet 4) (gsCons (gSet 5) (gsCons (gSet 6) gsNil))))) (eComp [14] (itSeq (eVar 2)) (gSet 14) tYesM (eIf (tOf (eIsi isi_list (eVar 14))) (eListN (aCons (eVar 14) aNil)) (eVar 14))) (env (some (.scr ns)) none none none none (some (.lst [v1, v2, v3, v4])) none none none none none none none none) st1 = .ok (.next, env (some (.scr ns)) (some a) (some b) (some c) (some d) (some (.lst [v1, v2, v3, v4])) none none none none none none none none) st2 := by
      unfold sAsg
      rw [M.ok_bind r2]
      rfl
    have t4 : sSet 7 (eCall 4 m__law_rows (aCons (eVar 3) (aCons (eVar 4) (aCons (eVar 5) (aCons (eVar 6) aNil))))) (env (some (.scr ns)) (some a) (some b) (some c) (some d) (some (.lst [v1, v2, v3, v4])) none none none none none none none none) st2 = .ok (.next, env (some (.scr ns)) (some a) (some b) (some c) (some d) (some (.lst [v1, v2, v3, v4])) (some (.ref r)) none none none none none none none) st3 := set_run (call_run (cons_run (var_run rfl) (cons_run (var_run rfl) (cons_run (var_run rfl) (one_run (var_run rfl))))) rfl r3)
    have len7 : fLen st3 [.ref r] = some (.int 7) := by
      rw [len_run (xs := (prs e f g h).map rowD) (by simp [seqOf, hr3])]
      rfl
    have t6 : sFor (itRange1 (eN fLen (aCons (eVar 7) aNil))) (gSet 11) body2 (env (some (.scr ns)) (some a) (some b) (some c) (some d) (some (.lst [v1, v2, v3, v4])) (some (.ref r)) x8 x9 x10 none none none none) st3 = .ok (.next, env (some (.scr ns)) (some a) (some b) (some c) (some d) (some (.lst [v1, v2, v3, v4])) (some (.ref r)) x8 x9 x10 y11 y12 none none) st4 := by
      have hit : itRange1 (eN fLen (aCons (eVar 7) aNil)) (env (some (.scr ns)) (some a) (some b) (some c) (some d) (some (.lst [v1, v2, v3, v4])) (some (.ref r)) x8 x9 x10 none none none none) st3 = .ok (rangeD 0 7, none) st3 := by
        unfold itRange1
        rw [M.ok_bind (eN_run (one_run (var_run rfl)) len7)]
        rfl
      unfold sFor
      rw [M.ok_bind hit]
      exact r5
    rw [seq_next t1, seq_next t2, seq_next t3, seq_next t4, seq_next r4, seq_next t6]
    rw [seq_next (st' := st5) (by
      rw [if_not ((or_not no1).trans ((or_not no2).trans ((or_not no3).trans no4))), e5]
      rfl)]
    rw [seq_next (st' := st6) (by
      rw [if_not ((or_not no5).trans no6), e6]
      rfl)]
    rw [seq_next (set_run (eN_run (one_run (ops st6 none hr6)) hs))]
    refine (seq_next hif).trans ?_
    exact ret_run (e2_run (eN_run (one_run (ops st7 _ hr7)) hs7) (var_run rfl) eqD_str)
  have hk0 : ∀ k items, A1 = A1 → st2[k]? = some (.lst items) → k ≠ r := fun k items _ hk z => by
    have := (List.getElem?_eq_some_iff.mp hk).1
    omega
  cases A1 with
  | nl hn =>
    refine main st6 ?_ hr6 hs
    have hk : eIsi isi_list (eVar 3) (env (some (.scr ns)) (some a) (some b) (some c) (some d) (some (.lst [v1, v2, v3, v4])) (some (.ref r)) x8 x9 x10 y11 y12 (some (.str s)) none) st6 = .ok (.bl false) st6 := by
      have hn6 := (((hn.ge L3.ge).ge G4).ge L5.ge).ge L6.ge
      cases hn6 with
      | fix h =>
        simp only [fixed, List.mem_cons, List.not_mem_nil, or_false] at h
        rcases h with rfl | rfl | rfl | rfl | rfl | rfl | rfl | rfl | rfl | rfl | rfl | rfl | rfl <;> exact e1_run (var_run rfl) rfl
      | dict h0 h => exact e1_run (var_run rfl) (by simp only [kdOf, h]; rfl)
    rw [if_not (tOf_run hk)]
    rfl
  | @ls k items k0 hk hi =>
    have hk6 : st6[k]? = some (.lst items) := L6 _ _ (L5 _ _ (G4 _ _ k0 (L3 _ _ hk)))
    have hkr : k ≠ r := fun z => by
      have := (List.getElem?_eq_some_iff.mp hk).1
      omega
    refine main (st6.set k (.lst (items ++ [.int 7]))) ?_ (by rw [List.getElem?_set_ne hkr]; exact hr6) (by rw [repr_items (st' := st6) hi]; exact hs)
    have hk' : eIsi isi_list (eVar 3) (env (some (.scr ns)) (some (.ref k)) (some b) (some c) (some d) (some (.lst [v1, v2, v3, v4])) (some (.ref r)) x8 x9 x10 y11 y12 (some (.str s)) none) st6 = .ok (.bl true) st6 := e1_run (var_run rfl) (by simp only [kdOf, hk6]; rfl)
    rw [if_yes (tOf_run hk')]
    have hl' : items.length < 1000 := by cases hi <;> exact Nat.le_of_ble_eq_true rfl
    exact ex_run (app_run rfl hk6 c_run hk6 hl')
end K90
namespace K90
open PySem PySem.Spec PyProof.Rows L2 DL

theorem all_mk {fa C_Count C_Follows C_Breaks C_Series C_NoSeries C_Model C_Paper f_copied f_Count___init__ f_Count___eq__ f_Follows___init__ f_Follows___eq__ f_Breaks___init__ f_Breaks___eq__ f_Series___init__ f_Series___eq__ f_NoSeries___init__ f_NoSeries___eq__ f_Model___init__ f_model_key f_Model___eq__ f_Paper___init__ f_paper_key f_Paper___eq__ f_Count___ne__ f_Follows___ne__ f_Breaks___ne__ f_Series___ne__ f_NoSeries___ne__ f_Model___ne__ f_Paper___ne__ f__law_pen f__law_draw f__law_pick f__law_value f__law_copy f__law_fields f__law_rows f_law : Addr}
  {od_copied an_copied od_Count___init__ an_Count___init__ od_Count___eq__ an_Count___eq__ od_Follows___init__ an_Follows___init__ od_Follows___eq__ an_Follows___eq__ od_Breaks___init__ an_Breaks___init__ od_Breaks___eq__ an_Breaks___eq__ od_Series___init__ an_Series___init__ od_Series___eq__ an_Series___eq__ od_NoSeries___init__ an_NoSeries___init__ od_NoSeries___eq__ an_NoSeries___eq__ od_Model___init__ an_Model___init__ od_model_key an_model_key od_Model___eq__ an_Model___eq__ od_Paper___init__ an_Paper___init__ od_paper_key an_paper_key od_Paper___eq__ an_Paper___eq__ od_Count___ne__ an_Count___ne__ od_Follows___ne__ an_Follows___ne__ od_Breaks___ne__ an_Breaks___ne__ od_Series___ne__ an_Series___ne__ od_NoSeries___ne__ an_NoSeries___ne__ od_Model___ne__ an_Model___ne__ od_Paper___ne__ an_Paper___ne__ od__law_pen an__law_pen od__law_draw an__law_draw od__law_pick an__law_pick od__law_value an__law_value od__law_copy an__law_copy od__law_fields an__law_fields od__law_rows an__law_rows od_law an_law : Option Addr} {sl_copied sl_Count___init__ sl_Count___eq__ sl_Follows___init__ sl_Follows___eq__ sl_Breaks___init__ sl_Breaks___eq__ sl_Series___init__ sl_Series___eq__ sl_NoSeries___init__ sl_NoSeries___eq__ sl_Model___init__ sl_model_key sl_Model___eq__ sl_Paper___init__ sl_paper_key sl_Paper___eq__ sl_Count___ne__ sl_Follows___ne__ sl_Breaks___ne__ sl_Series___ne__ sl_NoSeries___ne__ sl_Model___ne__ sl_Paper___ne__ sl__law_pen sl__law_draw sl__law_pick sl__law_value sl__law_copy sl__law_fields sl__law_rows sl_law : Array (Option Value)} {oc_copied kV_copied dc_copied pm_copied cd_copied ct_copied oc_Count___init__ kV_Count___init__ dc_Count___init__ pm_Count___init__ cd_Count___init__ ct_Count___init__ oc_Count___eq__ kV_Count___eq__ dc_Count___eq__ pm_Count___eq__ cd_Count___eq__ ct_Count___eq__ oc_Follows___init__ kV_Follows___init__ dc_Follows___init__ pm_Follows___init__ cd_Follows___init__ ct_Follows___init__ oc_Follows___eq__ kV_Follows___eq__ dc_Follows___eq__ pm_Follows___eq__ cd_Follows___eq__ ct_Follows___eq__ oc_Breaks___init__ kV_Breaks___init__ dc_Breaks___init__ pm_Breaks___init__ cd_Breaks___init__ ct_Breaks___init__ oc_Breaks___eq__ kV_Breaks___eq__ dc_Breaks___eq__ pm_Breaks___eq__ cd_Breaks___eq__ ct_Breaks___eq__ oc_Series___init__ kV_Series___init__ dc_Series___init__ pm_Series___init__ cd_Series___init__ ct_Series___init__ oc_Series___eq__ kV_Series___eq__ dc_Series___eq__ pm_Series___eq__ cd_Series___eq__ ct_Series___eq__ oc_NoSeries___init__ kV_NoSeries___init__ dc_NoSeries___init__ pm_NoSeries___init__ cd_NoSeries___init__ ct_NoSeries___init__ oc_NoSeries___eq__ kV_NoSeries___eq__ dc_NoSeries___eq__ pm_NoSeries___eq__ cd_NoSeries___eq__ ct_NoSeries___eq__ oc_Model___init__ kV_Model___init__ dc_Model___init__ pm_Model___init__ cd_Model___init__ ct_Model___init__ oc_model_key kV_model_key dc_model_key pm_model_key cd_model_key ct_model_key oc_Model___eq__ kV_Model___eq__ dc_Model___eq__ pm_Model___eq__ cd_Model___eq__ ct_Model___eq__ oc_Paper___init__ kV_Paper___init__ dc_Paper___init__ pm_Paper___init__ cd_Paper___init__ ct_Paper___init__ oc_paper_key kV_paper_key dc_paper_key pm_paper_key cd_paper_key ct_paper_key oc_Paper___eq__ kV_Paper___eq__ dc_Paper___eq__ pm_Paper___eq__ cd_Paper___eq__ ct_Paper___eq__ oc_Count___ne__ kV_Count___ne__ dc_Count___ne__ pm_Count___ne__ cd_Count___ne__ ct_Count___ne__ oc_Follows___ne__ kV_Follows___ne__ dc_Follows___ne__ pm_Follows___ne__ cd_Follows___ne__ ct_Follows___ne__ oc_Breaks___ne__ kV_Breaks___ne__ dc_Breaks___ne__ pm_Breaks___ne__ cd_Breaks___ne__ ct_Breaks___ne__ oc_Series___ne__ kV_Series___ne__ dc_Series___ne__ pm_Series___ne__ cd_Series___ne__ ct_Series___ne__ oc_NoSeries___ne__ kV_NoSeries___ne__ dc_NoSeries___ne__ pm_NoSeries___ne__ cd_NoSeries___ne__ ct_NoSeries___ne__ oc_Model___ne__ kV_Model___ne__ dc_Model___ne__ pm_Model___ne__ cd_Model___ne__ ct_Model___ne__ oc_Paper___ne__ kV_Paper___ne__ dc_Paper___ne__ pm_Paper___ne__ cd_Paper___ne__ ct_Paper___ne__ oc__law_pen kV__law_pen dc__law_pen pm__law_pen cd__law_pen ct__law_pen oc__law_draw kV__law_draw dc__law_draw pm__law_draw cd__law_draw ct__law_draw oc__law_pick kV__law_pick dc__law_pick pm__law_pick cd__law_pick ct__law_pick oc__law_value kV__law_value dc__law_value pm__law_value cd__law_value ct__law_value oc__law_copy kV__law_copy dc__law_copy pm__law_copy cd__law_copy ct__law_copy oc__law_fields kV__law_fields dc__law_fields pm__law_fields cd__law_fields ct__law_fields oc__law_rows kV__law_rows dc__law_rows pm__law_rows cd__law_rows ct__law_rows oc_law kV_law dc_law pm_law cd_law ct_law : Value} {P : Program} {w : World} {K : PySem.W.Frag} {h : Heap} {mg : Str → Option Value} (X : K.In h) (G : h.Ns mainGlobals mg) (hfa : mg "law" = some (.ref fa))
  (aC_Count : PySem.W.nsIn K mainGlobals "Count" = some (some (.ref C_Count)))
  (aC_Follows : PySem.W.nsIn K mainGlobals "Follows" = some (some (.ref C_Follows)))
  (aC_Breaks : PySem.W.nsIn K mainGlobals "Breaks" = some (some (.ref C_Breaks)))
  (aC_Series : PySem.W.nsIn K mainGlobals "Series" = some (some (.ref C_Series)))
  (aC_NoSeries : PySem.W.nsIn K mainGlobals "NoSeries" = some (some (.ref C_NoSeries)))
  (aC_Model : PySem.W.nsIn K mainGlobals "Model" = some (some (.ref C_Model)))
  (aC_Paper : PySem.W.nsIn K mainGlobals "Paper" = some (some (.ref C_Paper)))
  (a_copied : PySem.W.nsIn K mainGlobals "copied" = some (some (.ref f_copied)))
  (l_copied : K.lookup f_copied = some ⟨oc_copied, od_copied, .func (PySem.W.fnOf "copied" "copied" (defArgs s_copied) (defBody s_copied) (defScope s_copied) .none kV_copied dc_copied pm_copied an_copied cd_copied ct_copied), sl_copied⟩)
  (c_copied : PySem.W.codeIn K cd_copied "copied" = true)
  (k_copied : PySem.W.keepIn K (.ref f_copied) = true)
  (a_Count___init__ : PySem.W.findIn K (.ref C_Count) "__init__" = some (some (.ref f_Count___init__)))
  (i_Count___init__ : PySem.W.isFn K (.ref f_Count___init__) = true)
  (l_Count___init__ : K.lookup f_Count___init__ = some ⟨oc_Count___init__, od_Count___init__, .func (PySem.W.fnOf "__init__" "Count.__init__" (defArgs s_Count___init__) (defBody s_Count___init__) (defScope s_Count___init__) .none kV_Count___init__ dc_Count___init__ pm_Count___init__ an_Count___init__ cd_Count___init__ ct_Count___init__), sl_Count___init__⟩)
  (c_Count___init__ : PySem.W.codeIn K cd_Count___init__ "Count.__init__" = true)
  (k_Count___init__ : PySem.W.keepIn K (.ref f_Count___init__) = true)
  (a_Count___eq__ : PySem.W.findIn K (.ref C_Count) "__eq__" = some (some (.ref f_Count___eq__)))
  (i_Count___eq__ : PySem.W.isFn K (.ref f_Count___eq__) = true)
  (l_Count___eq__ : K.lookup f_Count___eq__ = some ⟨oc_Count___eq__, od_Count___eq__, .func (PySem.W.fnOf "__eq__" "Count.__eq__" (defArgs s_Count___eq__) (defBody s_Count___eq__) (defScope s_Count___eq__) .none kV_Count___eq__ dc_Count___eq__ pm_Count___eq__ an_Count___eq__ cd_Count___eq__ ct_Count___eq__), sl_Count___eq__⟩)
  (c_Count___eq__ : PySem.W.codeIn K cd_Count___eq__ "Count.__eq__" = true)
  (k_Count___eq__ : PySem.W.keepIn K (.ref f_Count___eq__) = true)
  (a_Follows___init__ : PySem.W.findIn K (.ref C_Follows) "__init__" = some (some (.ref f_Follows___init__)))
  (i_Follows___init__ : PySem.W.isFn K (.ref f_Follows___init__) = true)
  (l_Follows___init__ : K.lookup f_Follows___init__ = some ⟨oc_Follows___init__, od_Follows___init__, .func (PySem.W.fnOf "__init__" "Follows.__init__" (defArgs s_Follows___init__) (defBody s_Follows___init__) (defScope s_Follows___init__) .none kV_Follows___init__ dc_Follows___init__ pm_Follows___init__ an_Follows___init__ cd_Follows___init__ ct_Follows___init__), sl_Follows___init__⟩)
  (c_Follows___init__ : PySem.W.codeIn K cd_Follows___init__ "Follows.__init__" = true)
  (k_Follows___init__ : PySem.W.keepIn K (.ref f_Follows___init__) = true)
  (a_Follows___eq__ : PySem.W.findIn K (.ref C_Follows) "__eq__" = some (some (.ref f_Follows___eq__)))
  (i_Follows___eq__ : PySem.W.isFn K (.ref f_Follows___eq__) = true)
  (l_Follows___eq__ : K.lookup f_Follows___eq__ = some ⟨oc_Follows___eq__, od_Follows___eq__, .func (PySem.W.fnOf "__eq__" "Follows.__eq__" (defArgs s_Follows___eq__) (defBody s_Follows___eq__) (defScope s_Follows___eq__) .none kV_Follows___eq__ dc_Follows___eq__ pm_Follows___eq__ an_Follows___eq__ cd_Follows___eq__ ct_Follows___eq__), sl_Follows___eq__⟩)
  (c_Follows___eq__ : PySem.W.codeIn K cd_Follows___eq__ "Follows.__eq__" = true)
  (k_Follows___eq__ : PySem.W.keepIn K (.ref f_Follows___eq__) = true)
  (a_Breaks___init__ : PySem.W.findIn K (.ref C_Breaks) "__init__" = some (some (.ref f_Breaks___init__)))
  (i_Breaks___init__ : PySem.W.isFn K (.ref f_Breaks___init__) = true)
  (l_Breaks___init__ : K.lookup f_Breaks___init__ = some ⟨oc_Breaks___init__, od_Breaks___init__, .func (PySem.W.fnOf "__init__" "Breaks.__init__" (defArgs s_Breaks___init__) (defBody s_Breaks___init__) (defScope s_Breaks___init__) .none kV_Breaks___init__ dc_Breaks___init__ pm_Breaks___init__ an_Breaks___init__ cd_Breaks___init__ ct_Breaks___init__), sl_Breaks___init__⟩)
  (c_Breaks___init__ : PySem.W.codeIn K cd_Breaks___init__ "Breaks.__init__" = true)
  (k_Breaks___init__ : PySem.W.keepIn K (.ref f_Breaks___init__) = true)
  (a_Breaks___eq__ : PySem.W.findIn K (.ref C_Breaks) "__eq__" = some (some (.ref f_Breaks___eq__)))
  (i_Breaks___eq__ : PySem.W.isFn K (.ref f_Breaks___eq__) = true)
  (l_Breaks___eq__ : K.lookup f_Breaks___eq__ = some ⟨oc_Breaks___eq__, od_Breaks___eq__, .func (PySem.W.fnOf "__eq__" "Breaks.__eq__" (defArgs s_Breaks___eq__) (defBody s_Breaks___eq__) (defScope s_Breaks___eq__) .none kV_Breaks___eq__ dc_Breaks___eq__ pm_Breaks___eq__ an_Breaks___eq__ cd_Breaks___eq__ ct_Breaks___eq__), sl_Breaks___eq__⟩)
  (c_Breaks___eq__ : PySem.W.codeIn K cd_Breaks___eq__ "Breaks.__eq__" = true)
  (k_Breaks___eq__ : PySem.W.keepIn K (.ref f_Breaks___eq__) = true)
  (a_Series___init__ : PySem.W.findIn K (.ref C_Series) "__init__" = some (some (.ref f_Series___init__)))
  (i_Series___init__ : PySem.W.isFn K (.ref f_Series___init__) = true)
  (l_Series___init__ : K.lookup f_Series___init__ = some ⟨oc_Series___init__, od_Series___init__, .func (PySem.W.fnOf "__init__" "Series.__init__" (defArgs s_Series___init__) (defBody s_Series___init__) (defScope s_Series___init__) .none kV_Series___init__ dc_Series___init__ pm_Series___init__ an_Series___init__ cd_Series___init__ ct_Series___init__), sl_Series___init__⟩)
  (c_Series___init__ : PySem.W.codeIn K cd_Series___init__ "Series.__init__" = true)
  (k_Series___init__ : PySem.W.keepIn K (.ref f_Series___init__) = true)
  (a_Series___eq__ : PySem.W.findIn K (.ref C_Series) "__eq__" = some (some (.ref f_Series___eq__)))
  (i_Series___eq__ : PySem.W.isFn K (.ref f_Series___eq__) = true)
  (l_Series___eq__ : K.lookup f_Series___eq__ = some ⟨oc_Series___eq__, od_Series___eq__, .func (PySem.W.fnOf "__eq__" "Series.__eq__" (defArgs s_Series___eq__) (defBody s_Series___eq__) (defScope s_Series___eq__) .none kV_Series___eq__ dc_Series___eq__ pm_Series___eq__ an_Series___eq__ cd_Series___eq__ ct_Series___eq__), sl_Series___eq__⟩)
  (c_Series___eq__ : PySem.W.codeIn K cd_Series___eq__ "Series.__eq__" = true)
  (k_Series___eq__ : PySem.W.keepIn K (.ref f_Series___eq__) = true)
  (a_NoSeries___init__ : PySem.W.findIn K (.ref C_NoSeries) "__init__" = some (some (.ref f_NoSeries___init__)))
  (i_NoSeries___init__ : PySem.W.isFn K (.ref f_NoSeries___init__) = true)
  (l_NoSeries___init__ : K.lookup f_NoSeries___init__ = some ⟨oc_NoSeries___init__, od_NoSeries___init__, .func (PySem.W.fnOf "__init__" "NoSeries.__init__" (defArgs s_NoSeries___init__) (defBody s_NoSeries___init__) (defScope s_NoSeries___init__) .none kV_NoSeries___init__ dc_NoSeries___init__ pm_NoSeries___init__ an_NoSeries___init__ cd_NoSeries___init__ ct_NoSeries___init__), sl_NoSeries___init__⟩)
  (c_NoSeries___init__ : PySem.W.codeIn K cd_NoSeries___init__ "NoSeries.__init__" = true)
  (k_NoSeries___init__ : PySem.W.keepIn K (.ref f_NoSeries___init__) = true)
  (a_NoSeries___eq__ : PySem.W.findIn K (.ref C_NoSeries) "__eq__" = some (some (.ref f_NoSeries___eq__)))
  (i_NoSeries___eq__ : PySem.W.isFn K (.ref f_NoSeries___eq__) = true)
  (l_NoSeries___eq__ : K.lookup f_NoSeries___eq__ = some ⟨oc_NoSeries___eq__, od_NoSeries___eq__, .func (PySem.W.fnOf "__eq__" "NoSeries.__eq__" (defArgs s_NoSeries___eq__) (defBody s_NoSeries___eq__) (defScope s_NoSeries___eq__) .none kV_NoSeries___eq__ dc_NoSeries___eq__ pm_NoSeries___eq__ an_NoSeries___eq__ cd_NoSeries___eq__ ct_NoSeries___eq__), sl_NoSeries___eq__⟩)
  (c_NoSeries___eq__ : PySem.W.codeIn K cd_NoSeries___eq__ "NoSeries.__eq__" = true)
  (k_NoSeries___eq__ : PySem.W.keepIn K (.ref f_NoSeries___eq__) = true)
  (a_Model___init__ : PySem.W.findIn K (.ref C_Model) "__init__" = some (some (.ref f_Model___init__)))
  (i_Model___init__ : PySem.W.isFn K (.ref f_Model___init__) = true)
  (l_Model___init__ : K.lookup f_Model___init__ = some ⟨oc_Model___init__, od_Model___init__, .func (PySem.W.fnOf "__init__" "Model.__init__" (defArgs s_Model___init__) (defBody s_Model___init__) (defScope s_Model___init__) .none kV_Model___init__ dc_Model___init__ pm_Model___init__ an_Model___init__ cd_Model___init__ ct_Model___init__), sl_Model___init__⟩)
  (c_Model___init__ : PySem.W.codeIn K cd_Model___init__ "Model.__init__" = true)
  (k_Model___init__ : PySem.W.keepIn K (.ref f_Model___init__) = true)
  (a_model_key : PySem.W.nsIn K mainGlobals "model_key" = some (some (.ref f_model_key)))
  (l_model_key : K.lookup f_model_key = some ⟨oc_model_key, od_model_key, .func (PySem.W.fnOf "model_key" "model_key" (defArgs s_model_key) (defBody s_model_key) (defScope s_model_key) .none kV_model_key dc_model_key pm_model_key an_model_key cd_model_key ct_model_key), sl_model_key⟩)
  (c_model_key : PySem.W.codeIn K cd_model_key "model_key" = true)
  (k_model_key : PySem.W.keepIn K (.ref f_model_key) = true)
  (a_Model___eq__ : PySem.W.findIn K (.ref C_Model) "__eq__" = some (some (.ref f_Model___eq__)))
  (i_Model___eq__ : PySem.W.isFn K (.ref f_Model___eq__) = true)
  (l_Model___eq__ : K.lookup f_Model___eq__ = some ⟨oc_Model___eq__, od_Model___eq__, .func (PySem.W.fnOf "__eq__" "Model.__eq__" (defArgs s_Model___eq__) (defBody s_Model___eq__) (defScope s_Model___eq__) .none kV_Model___eq__ dc_Model___eq__ pm_Model___eq__ an_Model___eq__ cd_Model___eq__ ct_Model___eq__), sl_Model___eq__⟩)
  (c_Model___eq__ : PySem.W.codeIn K cd_Model___eq__ "Model.__eq__" = true)
  (k_Model___eq__ : PySem.W.keepIn K (.ref f_Model___eq__) = true)
  (a_Paper___init__ : PySem.W.findIn K (.ref C_Paper) "__init__" = some (some (.ref f_Paper___init__)))
  (i_Paper___init__ : PySem.W.isFn K (.ref f_Paper___init__) = true)
  (l_Paper___init__ : K.lookup f_Paper___init__ = some ⟨oc_Paper___init__, od_Paper___init__, .func (PySem.W.fnOf "__init__" "Paper.__init__" (defArgs s_Paper___init__) (defBody s_Paper___init__) (defScope s_Paper___init__) .none kV_Paper___init__ dc_Paper___init__ pm_Paper___init__ an_Paper___init__ cd_Paper___init__ ct_Paper___init__), sl_Paper___init__⟩)
  (c_Paper___init__ : PySem.W.codeIn K cd_Paper___init__ "Paper.__init__" = true)
  (k_Paper___init__ : PySem.W.keepIn K (.ref f_Paper___init__) = true)
  (a_paper_key : PySem.W.nsIn K mainGlobals "paper_key" = some (some (.ref f_paper_key)))
  (l_paper_key : K.lookup f_paper_key = some ⟨oc_paper_key, od_paper_key, .func (PySem.W.fnOf "paper_key" "paper_key" (defArgs s_paper_key) (defBody s_paper_key) (defScope s_paper_key) .none kV_paper_key dc_paper_key pm_paper_key an_paper_key cd_paper_key ct_paper_key), sl_paper_key⟩)
  (c_paper_key : PySem.W.codeIn K cd_paper_key "paper_key" = true)
  (k_paper_key : PySem.W.keepIn K (.ref f_paper_key) = true)
  (a_Paper___eq__ : PySem.W.findIn K (.ref C_Paper) "__eq__" = some (some (.ref f_Paper___eq__)))
  (i_Paper___eq__ : PySem.W.isFn K (.ref f_Paper___eq__) = true)
  (l_Paper___eq__ : K.lookup f_Paper___eq__ = some ⟨oc_Paper___eq__, od_Paper___eq__, .func (PySem.W.fnOf "__eq__" "Paper.__eq__" (defArgs s_Paper___eq__) (defBody s_Paper___eq__) (defScope s_Paper___eq__) .none kV_Paper___eq__ dc_Paper___eq__ pm_Paper___eq__ an_Paper___eq__ cd_Paper___eq__ ct_Paper___eq__), sl_Paper___eq__⟩)
  (c_Paper___eq__ : PySem.W.codeIn K cd_Paper___eq__ "Paper.__eq__" = true)
  (k_Paper___eq__ : PySem.W.keepIn K (.ref f_Paper___eq__) = true)
  (a_Count___ne__ : PySem.W.findIn K (.ref C_Count) "__ne__" = some (some (.ref f_Count___ne__)))
  (i_Count___ne__ : PySem.W.isFn K (.ref f_Count___ne__) = true)
  (l_Count___ne__ : K.lookup f_Count___ne__ = some ⟨oc_Count___ne__, od_Count___ne__, .func (PySem.W.fnOf "__ne__" "Count.__ne__" (defArgs s_Count___ne__) (defBody s_Count___ne__) (defScope s_Count___ne__) .none kV_Count___ne__ dc_Count___ne__ pm_Count___ne__ an_Count___ne__ cd_Count___ne__ ct_Count___ne__), sl_Count___ne__⟩)
  (c_Count___ne__ : PySem.W.codeIn K cd_Count___ne__ "Count.__ne__" = true)
  (k_Count___ne__ : PySem.W.keepIn K (.ref f_Count___ne__) = true)
  (a_Follows___ne__ : PySem.W.findIn K (.ref C_Follows) "__ne__" = some (some (.ref f_Follows___ne__)))
  (i_Follows___ne__ : PySem.W.isFn K (.ref f_Follows___ne__) = true)
  (l_Follows___ne__ : K.lookup f_Follows___ne__ = some ⟨oc_Follows___ne__, od_Follows___ne__, .func (PySem.W.fnOf "__ne__" "Follows.__ne__" (defArgs s_Follows___ne__) (defBody s_Follows___ne__) (defScope s_Follows___ne__) .none kV_Follows___ne__ dc_Follows___ne__ pm_Follows___ne__ an_Follows___ne__ cd_Follows___ne__ ct_Follows___ne__), sl_Follows___ne__⟩)
  (c_Follows___ne__ : PySem.W.codeIn K cd_Follows___ne__ "Follows.__ne__" = true)
  (k_Follows___ne__ : PySem.W.keepIn K (.ref f_Follows___ne__) = true)
  (a_Breaks___ne__ : PySem.W.findIn K (.ref C_Breaks) "__ne__" = some (some (.ref f_Breaks___ne__)))
  (i_Breaks___ne__ : PySem.W.isFn K (.ref f_Breaks___ne__) = true)
  (l_Breaks___ne__ : K.lookup f_Breaks___ne__ = some ⟨oc_Breaks___ne__, od_Breaks___ne__, .func (PySem.W.fnOf "__ne__" "Breaks.__ne__" (defArgs s_Breaks___ne__) (defBody s_Breaks___ne__) (defScope s_Breaks___ne__) .none kV_Breaks___ne__ dc_Breaks___ne__ pm_Breaks___ne__ an_Breaks___ne__ cd_Breaks___ne__ ct_Breaks___ne__), sl_Breaks___ne__⟩)
  (c_Breaks___ne__ : PySem.W.codeIn K cd_Breaks___ne__ "Breaks.__ne__" = true)
  (k_Breaks___ne__ : PySem.W.keepIn K (.ref f_Breaks___ne__) = true)
  (a_Series___ne__ : PySem.W.findIn K (.ref C_Series) "__ne__" = some (some (.ref f_Series___ne__)))
  (i_Series___ne__ : PySem.W.isFn K (.ref f_Series___ne__) = true)
  (l_Series___ne__ : K.lookup f_Series___ne__ = some ⟨oc_Series___ne__, od_Series___ne__, .func (PySem.W.fnOf "__ne__" "Series.__ne__" (defArgs s_Series___ne__) (defBody s_Series___ne__) (defScope s_Series___ne__) .none kV_Series___ne__ dc_Series___ne__ pm_Series___ne__ an_Series___ne__ cd_Series___ne__ ct_Series___ne__), sl_Series___ne__⟩)
  (c_Series___ne__ : PySem.W.codeIn K cd_Series___ne__ "Series.__ne__" = true)
  (k_Series___ne__ : PySem.W.keepIn K (.ref f_Series___ne__) = true)
  (a_NoSeries___ne__ : PySem.W.findIn K (.ref C_NoSeries) "__ne__" = some (some (.ref f_NoSeries___ne__)))
  (i_NoSeries___ne__ : PySem.W.isFn K (.ref f_NoSeries___ne__) = true)
  (l_NoSeries___ne__ : K.lookup f_NoSeries___ne__ = some ⟨oc_NoSeries___ne__, od_NoSeries___ne__, .func (PySem.W.fnOf "__ne__" "NoSeries.__ne__" (defArgs s_NoSeries___ne__) (defBody s_NoSeries___ne__) (defScope s_NoSeries___ne__) .none kV_NoSeries___ne__ dc_NoSeries___ne__ pm_NoSeries___ne__ an_NoSeries___ne__ cd_NoSeries___ne__ ct_NoSeries___ne__), sl_NoSeries___ne__⟩)
  (c_NoSeries___ne__ : PySem.W.codeIn K cd_NoSeries___ne__ "NoSeries.__ne__" = true)
  (k_NoSeries___ne__ : PySem.W.keepIn K (.ref f_NoSeries___ne__) = true)
  (a_Model___ne__ : PySem.W.findIn K (.ref C_Model) "__ne__" = some (some (.ref f_Model___ne__)))
  (i_Model___ne__ : PySem.W.isFn K (.ref f_Model___ne__) = true)
  (l_Model___ne__ : K.lookup f_Model___ne__ = some ⟨oc_Model___ne__, od_Model___ne__, .func (PySem.W.fnOf "__ne__" "Model.__ne__" (defArgs s_Model___ne__) (defBody s_Model___ne__) (defScope s_Model___ne__) .none kV_Model___ne__ dc_Model___ne__ pm_Model___ne__ an_Model___ne__ cd_Model___ne__ ct_Model___ne__), sl_Model___ne__⟩)
  (c_Model___ne__ : PySem.W.codeIn K cd_Model___ne__ "Model.__ne__" = true)
  (k_Model___ne__ : PySem.W.keepIn K (.ref f_Model___ne__) = true)
  (a_Paper___ne__ : PySem.W.findIn K (.ref C_Paper) "__ne__" = some (some (.ref f_Paper___ne__)))
  (i_Paper___ne__ : PySem.W.isFn K (.ref f_Paper___ne__) = true)
  (l_Paper___ne__ : K.lookup f_Paper___ne__ = some ⟨oc_Paper___ne__, od_Paper___ne__, .func (PySem.W.fnOf "__ne__" "Paper.__ne__" (defArgs s_Paper___ne__) (defBody s_Paper___ne__) (defScope s_Paper___ne__) .none kV_Paper___ne__ dc_Paper___ne__ pm_Paper___ne__ an_Paper___ne__ cd_Paper___ne__ ct_Paper___ne__), sl_Paper___ne__⟩)
  (c_Paper___ne__ : PySem.W.codeIn K cd_Paper___ne__ "Paper.__ne__" = true)
  (k_Paper___ne__ : PySem.W.keepIn K (.ref f_Paper___ne__) = true)
  (a__law_pen : PySem.W.nsIn K mainGlobals "_law_pen" = some (some (.ref f__law_pen)))
  (l__law_pen : K.lookup f__law_pen = some ⟨oc__law_pen, od__law_pen, .func (PySem.W.fnOf "_law_pen" "_law_pen" (defArgs s__law_pen) (defBody s__law_pen) (defScope s__law_pen) .none kV__law_pen dc__law_pen pm__law_pen an__law_pen cd__law_pen ct__law_pen), sl__law_pen⟩)
  (c__law_pen : PySem.W.codeIn K cd__law_pen "_law_pen" = true)
  (k__law_pen : PySem.W.keepIn K (.ref f__law_pen) = true)
  (a__law_draw : PySem.W.nsIn K mainGlobals "_law_draw" = some (some (.ref f__law_draw)))
  (l__law_draw : K.lookup f__law_draw = some ⟨oc__law_draw, od__law_draw, .func (PySem.W.fnOf "_law_draw" "_law_draw" (defArgs s__law_draw) (defBody s__law_draw) (defScope s__law_draw) .none kV__law_draw dc__law_draw pm__law_draw an__law_draw cd__law_draw ct__law_draw), sl__law_draw⟩)
  (c__law_draw : PySem.W.codeIn K cd__law_draw "_law_draw" = true)
  (k__law_draw : PySem.W.keepIn K (.ref f__law_draw) = true)
  (a__law_pick : PySem.W.nsIn K mainGlobals "_law_pick" = some (some (.ref f__law_pick)))
  (l__law_pick : K.lookup f__law_pick = some ⟨oc__law_pick, od__law_pick, .func (PySem.W.fnOf "_law_pick" "_law_pick" (defArgs s__law_pick) (defBody s__law_pick) (defScope s__law_pick) .none kV__law_pick dc__law_pick pm__law_pick an__law_pick cd__law_pick ct__law_pick), sl__law_pick⟩)
  (c__law_pick : PySem.W.codeIn K cd__law_pick "_law_pick" = true)
  (k__law_pick : PySem.W.keepIn K (.ref f__law_pick) = true)
  (a__law_value : PySem.W.nsIn K mainGlobals "_law_value" = some (some (.ref f__law_value)))
  (l__law_value : K.lookup f__law_value = some ⟨oc__law_value, od__law_value, .func (PySem.W.fnOf "_law_value" "_law_value" (defArgs s__law_value) (defBody s__law_value) (defScope s__law_value) .none kV__law_value dc__law_value pm__law_value an__law_value cd__law_value ct__law_value), sl__law_value⟩)
  (c__law_value : PySem.W.codeIn K cd__law_value "_law_value" = true)
  (k__law_value : PySem.W.keepIn K (.ref f__law_value) = true)
  (a__law_copy : PySem.W.nsIn K mainGlobals "_law_copy" = some (some (.ref f__law_copy)))
  (l__law_copy : K.lookup f__law_copy = some ⟨oc__law_copy, od__law_copy, .func (PySem.W.fnOf "_law_copy" "_law_copy" (defArgs s__law_copy) (defBody s__law_copy) (defScope s__law_copy) .none kV__law_copy dc__law_copy pm__law_copy an__law_copy cd__law_copy ct__law_copy), sl__law_copy⟩)
  (c__law_copy : PySem.W.codeIn K cd__law_copy "_law_copy" = true)
  (k__law_copy : PySem.W.keepIn K (.ref f__law_copy) = true)
  (a__law_fields : PySem.W.nsIn K mainGlobals "_law_fields" = some (some (.ref f__law_fields)))
  (l__law_fields : K.lookup f__law_fields = some ⟨oc__law_fields, od__law_fields, .func (PySem.W.fnOf "_law_fields" "_law_fields" (defArgs s__law_fields) (defBody s__law_fields) (defScope s__law_fields) .none kV__law_fields dc__law_fields pm__law_fields an__law_fields cd__law_fields ct__law_fields), sl__law_fields⟩)
  (c__law_fields : PySem.W.codeIn K cd__law_fields "_law_fields" = true)
  (k__law_fields : PySem.W.keepIn K (.ref f__law_fields) = true)
  (a__law_rows : PySem.W.nsIn K mainGlobals "_law_rows" = some (some (.ref f__law_rows)))
  (l__law_rows : K.lookup f__law_rows = some ⟨oc__law_rows, od__law_rows, .func (PySem.W.fnOf "_law_rows" "_law_rows" (defArgs s__law_rows) (defBody s__law_rows) (defScope s__law_rows) .none kV__law_rows dc__law_rows pm__law_rows an__law_rows cd__law_rows ct__law_rows), sl__law_rows⟩)
  (c__law_rows : PySem.W.codeIn K cd__law_rows "_law_rows" = true)
  (k__law_rows : PySem.W.keepIn K (.ref f__law_rows) = true)
  (a_law : PySem.W.nsIn K mainGlobals "law" = some (some (.ref f_law)))
  (l_law : K.lookup f_law = some ⟨oc_law, od_law, .func (PySem.W.fnOf "law" "law" (defArgs s_law) (defBody s_law) (defScope s_law) .none kV_law dc_law pm_law an_law cd_law ct_law), sl_law⟩)
  (c_law : PySem.W.codeIn K cd_law "law" = true)
  (k_law : PySem.W.keepIn K (.ref f_law) = true)
  (hn_ : PySem.W.specialIn K (.builtin "object.__class__") "__get__" = some (some (.builtin "getset_descriptor.__get__")))
  (htk_ : PySem.W.takesIn K (.builtin "object.__class__") = some true)
  (pg_Count : PySem.W.plainGet K C_Count Str.empty = true)
  (hd_Count : PySem.W.hasDictIn K C_Count = true)
  (po_Count : PySem.W.plainOver K C_Count = true)
  (sa_Count : PySem.W.findIn K (.ref C_Count) "__setattr__" = some (some (.builtin "object.__setattr__")))
  (ha_Count : PySem.W.findIn K (.ref C_Count) "__class__" = some (some (.builtin "object.__class__")))
  (hm_Count : PySem.W.mroIn K C_Count (.type "object") = some true)
  (mk_Count : PySem.W.makesIn K C_Count = true)
  (kc_Count : PySem.W.keepIn K (.ref C_Count) = true)
  (na_Count_first : PySem.W.findIn K (.ref C_Count) "first" = some none)
  (na_Count_row : PySem.W.findIn K (.ref C_Count) "row" = some none)
  (pg_Follows : PySem.W.plainGet K C_Follows Str.empty = true)
  (hd_Follows : PySem.W.hasDictIn K C_Follows = true)
  (po_Follows : PySem.W.plainOver K C_Follows = true)
  (sa_Follows : PySem.W.findIn K (.ref C_Follows) "__setattr__" = some (some (.builtin "object.__setattr__")))
  (ha_Follows : PySem.W.findIn K (.ref C_Follows) "__class__" = some (some (.builtin "object.__class__")))
  (hm_Follows : PySem.W.mroIn K C_Follows (.type "object") = some true)
  (mk_Follows : PySem.W.makesIn K C_Follows = true)
  (kc_Follows : PySem.W.keepIn K (.ref C_Follows) = true)
  (na_Follows_ops : PySem.W.findIn K (.ref C_Follows) "ops" = some none)
  (pg_Breaks : PySem.W.plainGet K C_Breaks Str.empty = true)
  (hd_Breaks : PySem.W.hasDictIn K C_Breaks = true)
  (po_Breaks : PySem.W.plainOver K C_Breaks = true)
  (sa_Breaks : PySem.W.findIn K (.ref C_Breaks) "__setattr__" = some (some (.builtin "object.__setattr__")))
  (ha_Breaks : PySem.W.findIn K (.ref C_Breaks) "__class__" = some (some (.builtin "object.__class__")))
  (hm_Breaks : PySem.W.mroIn K C_Breaks (.type "object") = some true)
  (mk_Breaks : PySem.W.makesIn K C_Breaks = true)
  (kc_Breaks : PySem.W.keepIn K (.ref C_Breaks) = true)
  (na_Breaks_point : PySem.W.findIn K (.ref C_Breaks) "point" = some none)
  (na_Breaks_derivative : PySem.W.findIn K (.ref C_Breaks) "derivative" = some none)
  (pg_Series : PySem.W.plainGet K C_Series Str.empty = true)
  (hd_Series : PySem.W.hasDictIn K C_Series = true)
  (po_Series : PySem.W.plainOver K C_Series = true)
  (sa_Series : PySem.W.findIn K (.ref C_Series) "__setattr__" = some (some (.builtin "object.__setattr__")))
  (ha_Series : PySem.W.findIn K (.ref C_Series) "__class__" = some (some (.builtin "object.__class__")))
  (hm_Series : PySem.W.mroIn K C_Series (.type "object") = some true)
  (mk_Series : PySem.W.makesIn K C_Series = true)
  (kc_Series : PySem.W.keepIn K (.ref C_Series) = true)
  (na_Series_row : PySem.W.findIn K (.ref C_Series) "row" = some none)
  (pg_NoSeries : PySem.W.plainGet K C_NoSeries Str.empty = true)
  (hd_NoSeries : PySem.W.hasDictIn K C_NoSeries = true)
  (po_NoSeries : PySem.W.plainOver K C_NoSeries = true)
  (sa_NoSeries : PySem.W.findIn K (.ref C_NoSeries) "__setattr__" = some (some (.builtin "object.__setattr__")))
  (ha_NoSeries : PySem.W.findIn K (.ref C_NoSeries) "__class__" = some (some (.builtin "object.__class__")))
  (hm_NoSeries : PySem.W.mroIn K C_NoSeries (.type "object") = some true)
  (mk_NoSeries : PySem.W.makesIn K C_NoSeries = true)
  (kc_NoSeries : PySem.W.keepIn K (.ref C_NoSeries) = true)
  (na_NoSeries_what : PySem.W.findIn K (.ref C_NoSeries) "what" = some none)
  (pg_Model : PySem.W.plainGet K C_Model Str.empty = true)
  (hd_Model : PySem.W.hasDictIn K C_Model = true)
  (po_Model : PySem.W.plainOver K C_Model = true)
  (sa_Model : PySem.W.findIn K (.ref C_Model) "__setattr__" = some (some (.builtin "object.__setattr__")))
  (ha_Model : PySem.W.findIn K (.ref C_Model) "__class__" = some (some (.builtin "object.__class__")))
  (hm_Model : PySem.W.mroIn K C_Model (.type "object") = some true)
  (mk_Model : PySem.W.makesIn K C_Model = true)
  (kc_Model : PySem.W.keepIn K (.ref C_Model) = true)
  (na_Model_letters : PySem.W.findIn K (.ref C_Model) "letters" = some none)
  (na_Model_unknowns : PySem.W.findIn K (.ref C_Model) "unknowns" = some none)
  (na_Model_kind : PySem.W.findIn K (.ref C_Model) "kind" = some none)
  (na_Model_told : PySem.W.findIn K (.ref C_Model) "told" = some none)
  (na_Model_asks : PySem.W.findIn K (.ref C_Model) "asks" = some none)
  (pg_Paper : PySem.W.plainGet K C_Paper Str.empty = true)
  (hd_Paper : PySem.W.hasDictIn K C_Paper = true)
  (po_Paper : PySem.W.plainOver K C_Paper = true)
  (sa_Paper : PySem.W.findIn K (.ref C_Paper) "__setattr__" = some (some (.builtin "object.__setattr__")))
  (ha_Paper : PySem.W.findIn K (.ref C_Paper) "__class__" = some (some (.builtin "object.__class__")))
  (hm_Paper : PySem.W.mroIn K C_Paper (.type "object") = some true)
  (mk_Paper : PySem.W.makesIn K C_Paper = true)
  (kc_Paper : PySem.W.keepIn K (.ref C_Paper) = true)
  (na_Paper_unless : PySem.W.findIn K (.ref C_Paper) "unless" = some none)
  (na_Paper_shares : PySem.W.findIn K (.ref C_Paper) "shares" = some none)
  (na_Paper_made : PySem.W.findIn K (.ref C_Paper) "made" = some none)
  (na_Paper_back : PySem.W.findIn K (.ref C_Paper) "back" = some none)
  (na_Paper_pairs : PySem.W.findIn K (.ref C_Paper) "pairs" = some none)
  (na_Paper_asked : PySem.W.findIn K (.ref C_Paper) "asked" = some none)
  (ic_Count : PySem.W.isClsIn K C_Count = true)
  (ty_Count : PySem.W.typeIn K (.ref C_Count) = some (.type "type"))
  (nf_Count_Count : PySem.W.notFirst K C_Count (.ref C_Count) = true)
  (nf_Count_Follows : PySem.W.notFirst K C_Count (.ref C_Follows) = true)
  (su_Count_Follows : PySem.W.subIn K (.ref C_Follows) (.ref C_Count) = some false)
  (ne_Count_Follows : C_Follows ≠ C_Count)
  (nf_Count_Breaks : PySem.W.notFirst K C_Count (.ref C_Breaks) = true)
  (su_Count_Breaks : PySem.W.subIn K (.ref C_Breaks) (.ref C_Count) = some false)
  (ne_Count_Breaks : C_Breaks ≠ C_Count)
  (nf_Count_Series : PySem.W.notFirst K C_Count (.ref C_Series) = true)
  (su_Count_Series : PySem.W.subIn K (.ref C_Series) (.ref C_Count) = some false)
  (ne_Count_Series : C_Series ≠ C_Count)
  (nf_Count_NoSeries : PySem.W.notFirst K C_Count (.ref C_NoSeries) = true)
  (su_Count_NoSeries : PySem.W.subIn K (.ref C_NoSeries) (.ref C_Count) = some false)
  (ne_Count_NoSeries : C_NoSeries ≠ C_Count)
  (nf_Count_Model : PySem.W.notFirst K C_Count (.ref C_Model) = true)
  (su_Count_Model : PySem.W.subIn K (.ref C_Model) (.ref C_Count) = some false)
  (ne_Count_Model : C_Model ≠ C_Count)
  (nf_Count_Paper : PySem.W.notFirst K C_Count (.ref C_Paper) = true)
  (su_Count_Paper : PySem.W.subIn K (.ref C_Paper) (.ref C_Count) = some false)
  (ne_Count_Paper : C_Paper ≠ C_Count)
  (ic_Follows : PySem.W.isClsIn K C_Follows = true)
  (ty_Follows : PySem.W.typeIn K (.ref C_Follows) = some (.type "type"))
  (nf_Follows_Count : PySem.W.notFirst K C_Follows (.ref C_Count) = true)
  (su_Follows_Count : PySem.W.subIn K (.ref C_Count) (.ref C_Follows) = some false)
  (ne_Follows_Count : C_Count ≠ C_Follows)
  (nf_Follows_Follows : PySem.W.notFirst K C_Follows (.ref C_Follows) = true)
  (nf_Follows_Breaks : PySem.W.notFirst K C_Follows (.ref C_Breaks) = true)
  (su_Follows_Breaks : PySem.W.subIn K (.ref C_Breaks) (.ref C_Follows) = some false)
  (ne_Follows_Breaks : C_Breaks ≠ C_Follows)
  (nf_Follows_Series : PySem.W.notFirst K C_Follows (.ref C_Series) = true)
  (su_Follows_Series : PySem.W.subIn K (.ref C_Series) (.ref C_Follows) = some false)
  (ne_Follows_Series : C_Series ≠ C_Follows)
  (nf_Follows_NoSeries : PySem.W.notFirst K C_Follows (.ref C_NoSeries) = true)
  (su_Follows_NoSeries : PySem.W.subIn K (.ref C_NoSeries) (.ref C_Follows) = some false)
  (ne_Follows_NoSeries : C_NoSeries ≠ C_Follows)
  (nf_Follows_Model : PySem.W.notFirst K C_Follows (.ref C_Model) = true)
  (su_Follows_Model : PySem.W.subIn K (.ref C_Model) (.ref C_Follows) = some false)
  (ne_Follows_Model : C_Model ≠ C_Follows)
  (nf_Follows_Paper : PySem.W.notFirst K C_Follows (.ref C_Paper) = true)
  (su_Follows_Paper : PySem.W.subIn K (.ref C_Paper) (.ref C_Follows) = some false)
  (ne_Follows_Paper : C_Paper ≠ C_Follows)
  (ic_Breaks : PySem.W.isClsIn K C_Breaks = true)
  (ty_Breaks : PySem.W.typeIn K (.ref C_Breaks) = some (.type "type"))
  (nf_Breaks_Count : PySem.W.notFirst K C_Breaks (.ref C_Count) = true)
  (su_Breaks_Count : PySem.W.subIn K (.ref C_Count) (.ref C_Breaks) = some false)
  (ne_Breaks_Count : C_Count ≠ C_Breaks)
  (nf_Breaks_Follows : PySem.W.notFirst K C_Breaks (.ref C_Follows) = true)
  (su_Breaks_Follows : PySem.W.subIn K (.ref C_Follows) (.ref C_Breaks) = some false)
  (ne_Breaks_Follows : C_Follows ≠ C_Breaks)
  (nf_Breaks_Breaks : PySem.W.notFirst K C_Breaks (.ref C_Breaks) = true)
  (nf_Breaks_Series : PySem.W.notFirst K C_Breaks (.ref C_Series) = true)
  (su_Breaks_Series : PySem.W.subIn K (.ref C_Series) (.ref C_Breaks) = some false)
  (ne_Breaks_Series : C_Series ≠ C_Breaks)
  (nf_Breaks_NoSeries : PySem.W.notFirst K C_Breaks (.ref C_NoSeries) = true)
  (su_Breaks_NoSeries : PySem.W.subIn K (.ref C_NoSeries) (.ref C_Breaks) = some false)
  (ne_Breaks_NoSeries : C_NoSeries ≠ C_Breaks)
  (nf_Breaks_Model : PySem.W.notFirst K C_Breaks (.ref C_Model) = true)
  (su_Breaks_Model : PySem.W.subIn K (.ref C_Model) (.ref C_Breaks) = some false)
  (ne_Breaks_Model : C_Model ≠ C_Breaks)
  (nf_Breaks_Paper : PySem.W.notFirst K C_Breaks (.ref C_Paper) = true)
  (su_Breaks_Paper : PySem.W.subIn K (.ref C_Paper) (.ref C_Breaks) = some false)
  (ne_Breaks_Paper : C_Paper ≠ C_Breaks)
  (ic_Series : PySem.W.isClsIn K C_Series = true)
  (ty_Series : PySem.W.typeIn K (.ref C_Series) = some (.type "type"))
  (nf_Series_Count : PySem.W.notFirst K C_Series (.ref C_Count) = true)
  (su_Series_Count : PySem.W.subIn K (.ref C_Count) (.ref C_Series) = some false)
  (ne_Series_Count : C_Count ≠ C_Series)
  (nf_Series_Follows : PySem.W.notFirst K C_Series (.ref C_Follows) = true)
  (su_Series_Follows : PySem.W.subIn K (.ref C_Follows) (.ref C_Series) = some false)
  (ne_Series_Follows : C_Follows ≠ C_Series)
  (nf_Series_Breaks : PySem.W.notFirst K C_Series (.ref C_Breaks) = true)
  (su_Series_Breaks : PySem.W.subIn K (.ref C_Breaks) (.ref C_Series) = some false)
  (ne_Series_Breaks : C_Breaks ≠ C_Series)
  (nf_Series_Series : PySem.W.notFirst K C_Series (.ref C_Series) = true)
  (nf_Series_NoSeries : PySem.W.notFirst K C_Series (.ref C_NoSeries) = true)
  (su_Series_NoSeries : PySem.W.subIn K (.ref C_NoSeries) (.ref C_Series) = some false)
  (ne_Series_NoSeries : C_NoSeries ≠ C_Series)
  (nf_Series_Model : PySem.W.notFirst K C_Series (.ref C_Model) = true)
  (su_Series_Model : PySem.W.subIn K (.ref C_Model) (.ref C_Series) = some false)
  (ne_Series_Model : C_Model ≠ C_Series)
  (nf_Series_Paper : PySem.W.notFirst K C_Series (.ref C_Paper) = true)
  (su_Series_Paper : PySem.W.subIn K (.ref C_Paper) (.ref C_Series) = some false)
  (ne_Series_Paper : C_Paper ≠ C_Series)
  (ic_NoSeries : PySem.W.isClsIn K C_NoSeries = true)
  (ty_NoSeries : PySem.W.typeIn K (.ref C_NoSeries) = some (.type "type"))
  (nf_NoSeries_Count : PySem.W.notFirst K C_NoSeries (.ref C_Count) = true)
  (su_NoSeries_Count : PySem.W.subIn K (.ref C_Count) (.ref C_NoSeries) = some false)
  (ne_NoSeries_Count : C_Count ≠ C_NoSeries)
  (nf_NoSeries_Follows : PySem.W.notFirst K C_NoSeries (.ref C_Follows) = true)
  (su_NoSeries_Follows : PySem.W.subIn K (.ref C_Follows) (.ref C_NoSeries) = some false)
  (ne_NoSeries_Follows : C_Follows ≠ C_NoSeries)
  (nf_NoSeries_Breaks : PySem.W.notFirst K C_NoSeries (.ref C_Breaks) = true)
  (su_NoSeries_Breaks : PySem.W.subIn K (.ref C_Breaks) (.ref C_NoSeries) = some false)
  (ne_NoSeries_Breaks : C_Breaks ≠ C_NoSeries)
  (nf_NoSeries_Series : PySem.W.notFirst K C_NoSeries (.ref C_Series) = true)
  (su_NoSeries_Series : PySem.W.subIn K (.ref C_Series) (.ref C_NoSeries) = some false)
  (ne_NoSeries_Series : C_Series ≠ C_NoSeries)
  (nf_NoSeries_NoSeries : PySem.W.notFirst K C_NoSeries (.ref C_NoSeries) = true)
  (nf_NoSeries_Model : PySem.W.notFirst K C_NoSeries (.ref C_Model) = true)
  (su_NoSeries_Model : PySem.W.subIn K (.ref C_Model) (.ref C_NoSeries) = some false)
  (ne_NoSeries_Model : C_Model ≠ C_NoSeries)
  (nf_NoSeries_Paper : PySem.W.notFirst K C_NoSeries (.ref C_Paper) = true)
  (su_NoSeries_Paper : PySem.W.subIn K (.ref C_Paper) (.ref C_NoSeries) = some false)
  (ne_NoSeries_Paper : C_Paper ≠ C_NoSeries)
  (ic_Model : PySem.W.isClsIn K C_Model = true)
  (ty_Model : PySem.W.typeIn K (.ref C_Model) = some (.type "type"))
  (nf_Model_Count : PySem.W.notFirst K C_Model (.ref C_Count) = true)
  (su_Model_Count : PySem.W.subIn K (.ref C_Count) (.ref C_Model) = some false)
  (ne_Model_Count : C_Count ≠ C_Model)
  (nf_Model_Follows : PySem.W.notFirst K C_Model (.ref C_Follows) = true)
  (su_Model_Follows : PySem.W.subIn K (.ref C_Follows) (.ref C_Model) = some false)
  (ne_Model_Follows : C_Follows ≠ C_Model)
  (nf_Model_Breaks : PySem.W.notFirst K C_Model (.ref C_Breaks) = true)
  (su_Model_Breaks : PySem.W.subIn K (.ref C_Breaks) (.ref C_Model) = some false)
  (ne_Model_Breaks : C_Breaks ≠ C_Model)
  (nf_Model_Series : PySem.W.notFirst K C_Model (.ref C_Series) = true)
  (su_Model_Series : PySem.W.subIn K (.ref C_Series) (.ref C_Model) = some false)
  (ne_Model_Series : C_Series ≠ C_Model)
  (nf_Model_NoSeries : PySem.W.notFirst K C_Model (.ref C_NoSeries) = true)
  (su_Model_NoSeries : PySem.W.subIn K (.ref C_NoSeries) (.ref C_Model) = some false)
  (ne_Model_NoSeries : C_NoSeries ≠ C_Model)
  (nf_Model_Model : PySem.W.notFirst K C_Model (.ref C_Model) = true)
  (nf_Model_Paper : PySem.W.notFirst K C_Model (.ref C_Paper) = true)
  (su_Model_Paper : PySem.W.subIn K (.ref C_Paper) (.ref C_Model) = some false)
  (ne_Model_Paper : C_Paper ≠ C_Model)
  (ic_Paper : PySem.W.isClsIn K C_Paper = true)
  (ty_Paper : PySem.W.typeIn K (.ref C_Paper) = some (.type "type"))
  (nf_Paper_Count : PySem.W.notFirst K C_Paper (.ref C_Count) = true)
  (su_Paper_Count : PySem.W.subIn K (.ref C_Count) (.ref C_Paper) = some false)
  (ne_Paper_Count : C_Count ≠ C_Paper)
  (nf_Paper_Follows : PySem.W.notFirst K C_Paper (.ref C_Follows) = true)
  (su_Paper_Follows : PySem.W.subIn K (.ref C_Follows) (.ref C_Paper) = some false)
  (ne_Paper_Follows : C_Follows ≠ C_Paper)
  (nf_Paper_Breaks : PySem.W.notFirst K C_Paper (.ref C_Breaks) = true)
  (su_Paper_Breaks : PySem.W.subIn K (.ref C_Breaks) (.ref C_Paper) = some false)
  (ne_Paper_Breaks : C_Breaks ≠ C_Paper)
  (nf_Paper_Series : PySem.W.notFirst K C_Paper (.ref C_Series) = true)
  (su_Paper_Series : PySem.W.subIn K (.ref C_Series) (.ref C_Paper) = some false)
  (ne_Paper_Series : C_Series ≠ C_Paper)
  (nf_Paper_NoSeries : PySem.W.notFirst K C_Paper (.ref C_NoSeries) = true)
  (su_Paper_NoSeries : PySem.W.subIn K (.ref C_NoSeries) (.ref C_Paper) = some false)
  (ne_Paper_NoSeries : C_NoSeries ≠ C_Paper)
  (nf_Paper_Model : PySem.W.notFirst K C_Paper (.ref C_Model) = true)
  (su_Paper_Model : PySem.W.subIn K (.ref C_Model) (.ref C_Paper) = some false)
  (ne_Paper_Model : C_Model ≠ C_Paper)
  (nf_Paper_Paper : PySem.W.notFirst K C_Paper (.ref C_Paper) = true)
  (z_len : PySem.W.nsIn K mainGlobals "len" = some none)
  (z_repr : PySem.W.nsIn K mainGlobals "repr" = some none)
  (z_isinstance : PySem.W.nsIn K mainGlobals "isinstance" = some none)
  (z_int : PySem.W.nsIn K mainGlobals "int" = some none)
  (z_tuple : PySem.W.nsIn K mainGlobals "tuple" = some none)
  (z_list : PySem.W.nsIn K mainGlobals "list" = some none)
  (z_range : PySem.W.nsIn K mainGlobals "range" = some none) :
  ∃ fd : FuncData, (∀ (s : Shared) (v : Value), BindsTo s fd ⟨[v], []⟩ [("script", v)]) ∧ ∀ base : Heap, K.In base → base.Ns mainGlobals mg → SysB base → FnG P w K mg base 5 fa fd ["script"] (spD ⟨K, mg, fl⟩ 1 m_law) := by
  have e := hfa.symm.trans (PySem.W.mg_of X G a_law)
  cases e
  have F_copied := fun_mk (st := s_copied) l_copied c_copied k_copied
  have F_Count___init__ := fun_mk (st := s_Count___init__) l_Count___init__ c_Count___init__ k_Count___init__
  have F_Count___eq__ := fun_mk (st := s_Count___eq__) l_Count___eq__ c_Count___eq__ k_Count___eq__
  have F_Follows___init__ := fun_mk (st := s_Follows___init__) l_Follows___init__ c_Follows___init__ k_Follows___init__
  have F_Follows___eq__ := fun_mk (st := s_Follows___eq__) l_Follows___eq__ c_Follows___eq__ k_Follows___eq__
  have F_Breaks___init__ := fun_mk (st := s_Breaks___init__) l_Breaks___init__ c_Breaks___init__ k_Breaks___init__
  have F_Breaks___eq__ := fun_mk (st := s_Breaks___eq__) l_Breaks___eq__ c_Breaks___eq__ k_Breaks___eq__
  have F_Series___init__ := fun_mk (st := s_Series___init__) l_Series___init__ c_Series___init__ k_Series___init__
  have F_Series___eq__ := fun_mk (st := s_Series___eq__) l_Series___eq__ c_Series___eq__ k_Series___eq__
  have F_NoSeries___init__ := fun_mk (st := s_NoSeries___init__) l_NoSeries___init__ c_NoSeries___init__ k_NoSeries___init__
  have F_NoSeries___eq__ := fun_mk (st := s_NoSeries___eq__) l_NoSeries___eq__ c_NoSeries___eq__ k_NoSeries___eq__
  have F_Model___init__ := fun_mk (st := s_Model___init__) l_Model___init__ c_Model___init__ k_Model___init__
  have F_model_key := fun_mk (st := s_model_key) l_model_key c_model_key k_model_key
  have F_Model___eq__ := fun_mk (st := s_Model___eq__) l_Model___eq__ c_Model___eq__ k_Model___eq__
  have F_Paper___init__ := fun_mk (st := s_Paper___init__) l_Paper___init__ c_Paper___init__ k_Paper___init__
  have F_paper_key := fun_mk (st := s_paper_key) l_paper_key c_paper_key k_paper_key
  have F_Paper___eq__ := fun_mk (st := s_Paper___eq__) l_Paper___eq__ c_Paper___eq__ k_Paper___eq__
  have F_Count___ne__ := fun_mk (st := s_Count___ne__) l_Count___ne__ c_Count___ne__ k_Count___ne__
  have F_Follows___ne__ := fun_mk (st := s_Follows___ne__) l_Follows___ne__ c_Follows___ne__ k_Follows___ne__
  have F_Breaks___ne__ := fun_mk (st := s_Breaks___ne__) l_Breaks___ne__ c_Breaks___ne__ k_Breaks___ne__
  have F_Series___ne__ := fun_mk (st := s_Series___ne__) l_Series___ne__ c_Series___ne__ k_Series___ne__
  have F_NoSeries___ne__ := fun_mk (st := s_NoSeries___ne__) l_NoSeries___ne__ c_NoSeries___ne__ k_NoSeries___ne__
  have F_Model___ne__ := fun_mk (st := s_Model___ne__) l_Model___ne__ c_Model___ne__ k_Model___ne__
  have F_Paper___ne__ := fun_mk (st := s_Paper___ne__) l_Paper___ne__ c_Paper___ne__ k_Paper___ne__
  have F__law_pen := fun_mk (st := s__law_pen) l__law_pen c__law_pen k__law_pen
  have F__law_draw := fun_mk (st := s__law_draw) l__law_draw c__law_draw k__law_draw
  have F__law_pick := fun_mk (st := s__law_pick) l__law_pick c__law_pick k__law_pick
  have F__law_value := fun_mk (st := s__law_value) l__law_value c__law_value k__law_value
  have F__law_copy := fun_mk (st := s__law_copy) l__law_copy c__law_copy k__law_copy
  have F__law_fields := fun_mk (st := s__law_fields) l__law_fields c__law_fields k__law_fields
  have F__law_rows := fun_mk (st := s__law_rows) l__law_rows c__law_rows k__law_rows
  have F_law := fun_mk (st := s_law) l_law c_law k_law
  let A : Adr := ⟨C_Count, C_Follows, C_Breaks, C_Series, C_NoSeries, C_Model, C_Paper, f_copied, f_Count___init__, f_Count___eq__, f_Follows___init__, f_Follows___eq__, f_Breaks___init__, f_Breaks___eq__, f_Series___init__, f_Series___eq__, f_NoSeries___init__, f_NoSeries___eq__, f_Model___init__, f_model_key, f_Model___eq__, f_Paper___init__, f_paper_key, f_Paper___eq__, f_Count___ne__, f_Follows___ne__, f_Breaks___ne__, f_Series___ne__, f_NoSeries___ne__, f_Model___ne__, f_Paper___ne__, f__law_pen, f__law_draw, f__law_pick, f__law_value, f__law_copy, f__law_fields, f__law_rows, fa, PySem.W.fnOf "copied" "copied" (defArgs s_copied) (defBody s_copied) (defScope s_copied) .none kV_copied dc_copied pm_copied an_copied cd_copied ct_copied, PySem.W.fnOf "__init__" "Count.__init__" (defArgs s_Count___init__) (defBody s_Count___init__) (defScope s_Count___init__) .none kV_Count___init__ dc_Count___init__ pm_Count___init__ an_Count___init__ cd_Count___init__ ct_Count___init__, PySem.W.fnOf "__eq__" "Count.__eq__" (defArgs s_Count___eq__) (defBody s_Count___eq__) (defScope s_Count___eq__) .none kV_Count___eq__ dc_Count___eq__ pm_Count___eq__ an_Count___eq__ cd_Count___eq__ ct_Count___eq__, PySem.W.fnOf "__init__" "Follows.__init__" (defArgs s_Follows___init__) (defBody s_Follows___init__) (defScope s_Follows___init__) .none kV_Follows___init__ dc_Follows___init__ pm_Follows___init__ an_Follows___init__ cd_Follows___init__ ct_Follows___init__, PySem.W.fnOf "__eq__" "Follows.__eq__" (defArgs s_Follows___eq__) (defBody s_Follows___eq__) (defScope s_Follows___eq__) .none kV_Follows___eq__ dc_Follows___eq__ pm_Follows___eq__ an_Follows___eq__ cd_Follows___eq__ ct_Follows___eq__, PySem.W.fnOf "__init__" "Breaks.__init__" (defArgs s_Breaks___init__) (defBody s_Breaks___init__) (defScope s_Breaks___init__) .none kV_Breaks___init__ dc_Breaks___init__ pm_Breaks___init__ an_Breaks___init__ cd_Breaks___init__ ct_Breaks___init__, PySem.W.fnOf "__eq__" "Breaks.__eq__" (defArgs s_Breaks___eq__) (defBody s_Breaks___eq__) (defScope s_Breaks___eq__) .none kV_Breaks___eq__ dc_Breaks___eq__ pm_Breaks___eq__ an_Breaks___eq__ cd_Breaks___eq__ ct_Breaks___eq__, PySem.W.fnOf "__init__" "Series.__init__" (defArgs s_Series___init__) (defBody s_Series___init__) (defScope s_Series___init__) .none kV_Series___init__ dc_Series___init__ pm_Series___init__ an_Series___init__ cd_Series___init__ ct_Series___init__, PySem.W.fnOf "__eq__" "Series.__eq__" (defArgs s_Series___eq__) (defBody s_Series___eq__) (defScope s_Series___eq__) .none kV_Series___eq__ dc_Series___eq__ pm_Series___eq__ an_Series___eq__ cd_Series___eq__ ct_Series___eq__, PySem.W.fnOf "__init__" "NoSeries.__init__" (defArgs s_NoSeries___init__) (defBody s_NoSeries___init__) (defScope s_NoSeries___init__) .none kV_NoSeries___init__ dc_NoSeries___init__ pm_NoSeries___init__ an_NoSeries___init__ cd_NoSeries___init__ ct_NoSeries___init__, PySem.W.fnOf "__eq__" "NoSeries.__eq__" (defArgs s_NoSeries___eq__) (defBody s_NoSeries___eq__) (defScope s_NoSeries___eq__) .none kV_NoSeries___eq__ dc_NoSeries___eq__ pm_NoSeries___eq__ an_NoSeries___eq__ cd_NoSeries___eq__ ct_NoSeries___eq__, PySem.W.fnOf "__init__" "Model.__init__" (defArgs s_Model___init__) (defBody s_Model___init__) (defScope s_Model___init__) .none kV_Model___init__ dc_Model___init__ pm_Model___init__ an_Model___init__ cd_Model___init__ ct_Model___init__, PySem.W.fnOf "model_key" "model_key" (defArgs s_model_key) (defBody s_model_key) (defScope s_model_key) .none kV_model_key dc_model_key pm_model_key an_model_key cd_model_key ct_model_key, PySem.W.fnOf "__eq__" "Model.__eq__" (defArgs s_Model___eq__) (defBody s_Model___eq__) (defScope s_Model___eq__) .none kV_Model___eq__ dc_Model___eq__ pm_Model___eq__ an_Model___eq__ cd_Model___eq__ ct_Model___eq__, PySem.W.fnOf "__init__" "Paper.__init__" (defArgs s_Paper___init__) (defBody s_Paper___init__) (defScope s_Paper___init__) .none kV_Paper___init__ dc_Paper___init__ pm_Paper___init__ an_Paper___init__ cd_Paper___init__ ct_Paper___init__, PySem.W.fnOf "paper_key" "paper_key" (defArgs s_paper_key) (defBody s_paper_key) (defScope s_paper_key) .none kV_paper_key dc_paper_key pm_paper_key an_paper_key cd_paper_key ct_paper_key, PySem.W.fnOf "__eq__" "Paper.__eq__" (defArgs s_Paper___eq__) (defBody s_Paper___eq__) (defScope s_Paper___eq__) .none kV_Paper___eq__ dc_Paper___eq__ pm_Paper___eq__ an_Paper___eq__ cd_Paper___eq__ ct_Paper___eq__, PySem.W.fnOf "__ne__" "Count.__ne__" (defArgs s_Count___ne__) (defBody s_Count___ne__) (defScope s_Count___ne__) .none kV_Count___ne__ dc_Count___ne__ pm_Count___ne__ an_Count___ne__ cd_Count___ne__ ct_Count___ne__, PySem.W.fnOf "__ne__" "Follows.__ne__" (defArgs s_Follows___ne__) (defBody s_Follows___ne__) (defScope s_Follows___ne__) .none kV_Follows___ne__ dc_Follows___ne__ pm_Follows___ne__ an_Follows___ne__ cd_Follows___ne__ ct_Follows___ne__, PySem.W.fnOf "__ne__" "Breaks.__ne__" (defArgs s_Breaks___ne__) (defBody s_Breaks___ne__) (defScope s_Breaks___ne__) .none kV_Breaks___ne__ dc_Breaks___ne__ pm_Breaks___ne__ an_Breaks___ne__ cd_Breaks___ne__ ct_Breaks___ne__, PySem.W.fnOf "__ne__" "Series.__ne__" (defArgs s_Series___ne__) (defBody s_Series___ne__) (defScope s_Series___ne__) .none kV_Series___ne__ dc_Series___ne__ pm_Series___ne__ an_Series___ne__ cd_Series___ne__ ct_Series___ne__, PySem.W.fnOf "__ne__" "NoSeries.__ne__" (defArgs s_NoSeries___ne__) (defBody s_NoSeries___ne__) (defScope s_NoSeries___ne__) .none kV_NoSeries___ne__ dc_NoSeries___ne__ pm_NoSeries___ne__ an_NoSeries___ne__ cd_NoSeries___ne__ ct_NoSeries___ne__, PySem.W.fnOf "__ne__" "Model.__ne__" (defArgs s_Model___ne__) (defBody s_Model___ne__) (defScope s_Model___ne__) .none kV_Model___ne__ dc_Model___ne__ pm_Model___ne__ an_Model___ne__ cd_Model___ne__ ct_Model___ne__, PySem.W.fnOf "__ne__" "Paper.__ne__" (defArgs s_Paper___ne__) (defBody s_Paper___ne__) (defScope s_Paper___ne__) .none kV_Paper___ne__ dc_Paper___ne__ pm_Paper___ne__ an_Paper___ne__ cd_Paper___ne__ ct_Paper___ne__, PySem.W.fnOf "_law_pen" "_law_pen" (defArgs s__law_pen) (defBody s__law_pen) (defScope s__law_pen) .none kV__law_pen dc__law_pen pm__law_pen an__law_pen cd__law_pen ct__law_pen, PySem.W.fnOf "_law_draw" "_law_draw" (defArgs s__law_draw) (defBody s__law_draw) (defScope s__law_draw) .none kV__law_draw dc__law_draw pm__law_draw an__law_draw cd__law_draw ct__law_draw, PySem.W.fnOf "_law_pick" "_law_pick" (defArgs s__law_pick) (defBody s__law_pick) (defScope s__law_pick) .none kV__law_pick dc__law_pick pm__law_pick an__law_pick cd__law_pick ct__law_pick, PySem.W.fnOf "_law_value" "_law_value" (defArgs s__law_value) (defBody s__law_value) (defScope s__law_value) .none kV__law_value dc__law_value pm__law_value an__law_value cd__law_value ct__law_value, PySem.W.fnOf "_law_copy" "_law_copy" (defArgs s__law_copy) (defBody s__law_copy) (defScope s__law_copy) .none kV__law_copy dc__law_copy pm__law_copy an__law_copy cd__law_copy ct__law_copy, PySem.W.fnOf "_law_fields" "_law_fields" (defArgs s__law_fields) (defBody s__law_fields) (defScope s__law_fields) .none kV__law_fields dc__law_fields pm__law_fields an__law_fields cd__law_fields ct__law_fields, PySem.W.fnOf "_law_rows" "_law_rows" (defArgs s__law_rows) (defBody s__law_rows) (defScope s__law_rows) .none kV__law_rows dc__law_rows pm__law_rows an__law_rows cd__law_rows ct__law_rows, PySem.W.fnOf "law" "law" (defArgs s_law) (defBody s_law) (defScope s_law) .none kV_law dc_law pm_law an_law cd_law ct_law⟩
  have g_Count := PySem.W.mg_of X G aC_Count
  have g_Follows := PySem.W.mg_of X G aC_Follows
  have g_Breaks := PySem.W.mg_of X G aC_Breaks
  have g_Series := PySem.W.mg_of X G aC_Series
  have g_NoSeries := PySem.W.mg_of X G aC_NoSeries
  have g_Model := PySem.W.mg_of X G aC_Model
  have g_Paper := PySem.W.mg_of X G aC_Paper
  have ow_Count : OwnC K C_Count := ⟨⟨pg_Count, hd_Count, po_Count, sa_Count⟩, ha_Count, hn_, htk_, hm_Count⟩
  have ow_Follows : OwnC K C_Follows := ⟨⟨pg_Follows, hd_Follows, po_Follows, sa_Follows⟩, ha_Follows, hn_, htk_, hm_Follows⟩
  have ow_Breaks : OwnC K C_Breaks := ⟨⟨pg_Breaks, hd_Breaks, po_Breaks, sa_Breaks⟩, ha_Breaks, hn_, htk_, hm_Breaks⟩
  have ow_Series : OwnC K C_Series := ⟨⟨pg_Series, hd_Series, po_Series, sa_Series⟩, ha_Series, hn_, htk_, hm_Series⟩
  have ow_NoSeries : OwnC K C_NoSeries := ⟨⟨pg_NoSeries, hd_NoSeries, po_NoSeries, sa_NoSeries⟩, ha_NoSeries, hn_, htk_, hm_NoSeries⟩
  have ow_Model : OwnC K C_Model := ⟨⟨pg_Model, hd_Model, po_Model, sa_Model⟩, ha_Model, hn_, htk_, hm_Model⟩
  have ow_Paper : OwnC K C_Paper := ⟨⟨pg_Paper, hd_Paper, po_Paper, sa_Paper⟩, ha_Paper, hn_, htk_, hm_Paper⟩
  have T : ∀ base : Heap, SysB base → Txt K mg base A := fun base sys => {
    sys := sys
    z_len := PySem.W.mg_none_of X G z_len
    z_repr := PySem.W.mg_none_of X G z_repr
    z_isinstance := PySem.W.mg_none_of X G z_isinstance
    z_int := PySem.W.mg_none_of X G z_int
    z_tuple := PySem.W.mg_none_of X G z_tuple
    z_list := PySem.W.mg_none_of X G z_list
    z_range := PySem.W.mg_none_of X G z_range
    F_copied := F_copied
    b_copied := F_copied.binds (ps := ["value"]) fun _ _ _ _ _ _ us hl => match us, hl with | [_], _ => rfl
    g_copied := PySem.W.mg_of X G a_copied
    F_Count___init__ := F_Count___init__
    b_Count___init__ := F_Count___init__.binds (ps := ["self", "first", "row"]) fun _ _ _ _ _ _ us hl => match us, hl with | [_, _, _], _ => rfl
    F_Count___eq__ := F_Count___eq__
    b_Count___eq__ := F_Count___eq__.binds (ps := ["self", "other"]) fun _ _ _ _ _ _ us hl => match us, hl with | [_, _], _ => rfl
    F_Follows___init__ := F_Follows___init__
    b_Follows___init__ := F_Follows___init__.binds (ps := ["self", "ops"]) fun _ _ _ _ _ _ us hl => match us, hl with | [_, _], _ => rfl
    F_Follows___eq__ := F_Follows___eq__
    b_Follows___eq__ := F_Follows___eq__.binds (ps := ["self", "other"]) fun _ _ _ _ _ _ us hl => match us, hl with | [_, _], _ => rfl
    F_Breaks___init__ := F_Breaks___init__
    b_Breaks___init__ := F_Breaks___init__.binds (ps := ["self", "point", "derivative"]) fun _ _ _ _ _ _ us hl => match us, hl with | [_, _, _], _ => rfl
    F_Breaks___eq__ := F_Breaks___eq__
    b_Breaks___eq__ := F_Breaks___eq__.binds (ps := ["self", "other"]) fun _ _ _ _ _ _ us hl => match us, hl with | [_, _], _ => rfl
    F_Series___init__ := F_Series___init__
    b_Series___init__ := F_Series___init__.binds (ps := ["self", "row"]) fun _ _ _ _ _ _ us hl => match us, hl with | [_, _], _ => rfl
    F_Series___eq__ := F_Series___eq__
    b_Series___eq__ := F_Series___eq__.binds (ps := ["self", "other"]) fun _ _ _ _ _ _ us hl => match us, hl with | [_, _], _ => rfl
    F_NoSeries___init__ := F_NoSeries___init__
    b_NoSeries___init__ := F_NoSeries___init__.binds (ps := ["self", "what"]) fun _ _ _ _ _ _ us hl => match us, hl with | [_, _], _ => rfl
    F_NoSeries___eq__ := F_NoSeries___eq__
    b_NoSeries___eq__ := F_NoSeries___eq__.binds (ps := ["self", "other"]) fun _ _ _ _ _ _ us hl => match us, hl with | [_, _], _ => rfl
    F_Model___init__ := F_Model___init__
    b_Model___init__ := F_Model___init__.binds (ps := ["self", "letters", "unknowns", "kind", "told", "asks"]) fun _ _ _ _ _ _ us hl => match us, hl with | [_, _, _, _, _, _], _ => rfl
    F_model_key := F_model_key
    b_model_key := F_model_key.binds (ps := ["model"]) fun _ _ _ _ _ _ us hl => match us, hl with | [_], _ => rfl
    g_model_key := PySem.W.mg_of X G a_model_key
    F_Model___eq__ := F_Model___eq__
    b_Model___eq__ := F_Model___eq__.binds (ps := ["self", "other"]) fun _ _ _ _ _ _ us hl => match us, hl with | [_, _], _ => rfl
    F_Paper___init__ := F_Paper___init__
    b_Paper___init__ := F_Paper___init__.binds (ps := ["self", "unless", "shares", "made", "back", "pairs", "asked"]) fun _ _ _ _ _ _ us hl => match us, hl with | [_, _, _, _, _, _, _], _ => rfl
    F_paper_key := F_paper_key
    b_paper_key := F_paper_key.binds (ps := ["paper"]) fun _ _ _ _ _ _ us hl => match us, hl with | [_], _ => rfl
    g_paper_key := PySem.W.mg_of X G a_paper_key
    F_Paper___eq__ := F_Paper___eq__
    b_Paper___eq__ := F_Paper___eq__.binds (ps := ["self", "other"]) fun _ _ _ _ _ _ us hl => match us, hl with | [_, _], _ => rfl
    F_Count___ne__ := F_Count___ne__
    b_Count___ne__ := F_Count___ne__.binds (ps := ["self", "other"]) fun _ _ _ _ _ _ us hl => match us, hl with | [_, _], _ => rfl
    F_Follows___ne__ := F_Follows___ne__
    b_Follows___ne__ := F_Follows___ne__.binds (ps := ["self", "other"]) fun _ _ _ _ _ _ us hl => match us, hl with | [_, _], _ => rfl
    F_Breaks___ne__ := F_Breaks___ne__
    b_Breaks___ne__ := F_Breaks___ne__.binds (ps := ["self", "other"]) fun _ _ _ _ _ _ us hl => match us, hl with | [_, _], _ => rfl
    F_Series___ne__ := F_Series___ne__
    b_Series___ne__ := F_Series___ne__.binds (ps := ["self", "other"]) fun _ _ _ _ _ _ us hl => match us, hl with | [_, _], _ => rfl
    F_NoSeries___ne__ := F_NoSeries___ne__
    b_NoSeries___ne__ := F_NoSeries___ne__.binds (ps := ["self", "other"]) fun _ _ _ _ _ _ us hl => match us, hl with | [_, _], _ => rfl
    F_Model___ne__ := F_Model___ne__
    b_Model___ne__ := F_Model___ne__.binds (ps := ["self", "other"]) fun _ _ _ _ _ _ us hl => match us, hl with | [_, _], _ => rfl
    F_Paper___ne__ := F_Paper___ne__
    b_Paper___ne__ := F_Paper___ne__.binds (ps := ["self", "other"]) fun _ _ _ _ _ _ us hl => match us, hl with | [_, _], _ => rfl
    F__law_pen := F__law_pen
    b__law_pen := F__law_pen.binds (ps := ["script"]) fun _ _ _ _ _ _ us hl => match us, hl with | [_], _ => rfl
    g__law_pen := PySem.W.mg_of X G a__law_pen
    F__law_draw := F__law_draw
    b__law_draw := F__law_draw.binds (ps := ["pen", "many"]) fun _ _ _ _ _ _ us hl => match us, hl with | [_, _], _ => rfl
    g__law_draw := PySem.W.mg_of X G a__law_draw
    F__law_pick := F__law_pick
    b__law_pick := F__law_pick.binds (ps := ["pen", "some"]) fun _ _ _ _ _ _ us hl => match us, hl with | [_, _], _ => rfl
    g__law_pick := PySem.W.mg_of X G a__law_pick
    F__law_value := F__law_value
    b__law_value := F__law_value.binds (ps := ["pen"]) fun _ _ _ _ _ _ us hl => match us, hl with | [_], _ => rfl
    g__law_value := PySem.W.mg_of X G a__law_value
    F__law_copy := F__law_copy
    b__law_copy := F__law_copy.binds (ps := ["value"]) fun _ _ _ _ _ _ us hl => match us, hl with | [_], _ => rfl
    g__law_copy := PySem.W.mg_of X G a__law_copy
    F__law_fields := F__law_fields
    b__law_fields := F__law_fields.binds (ps := ["one"]) fun _ _ _ _ _ _ us hl => match us, hl with | [_], _ => rfl
    g__law_fields := PySem.W.mg_of X G a__law_fields
    F__law_rows := F__law_rows
    b__law_rows := F__law_rows.binds (ps := ["a", "b", "c", "d"]) fun _ _ _ _ _ _ us hl => match us, hl with | [_, _, _, _], _ => rfl
    g__law_rows := PySem.W.mg_of X G a__law_rows
    F_law := F_law
    b_law := F_law.binds (ps := ["script"]) fun _ _ _ _ _ _ us hl => match us, hl with | [_], _ => rfl
    g_law := PySem.W.mg_of X G a_law
    g_Count := g_Count
    cl_Count := ow_Count.cl
    ow_Count := ow_Count
    mk_Count := ⟨mk_Count, a_Count___init__, i_Count___init__, kc_Count⟩
    fi_Count___eq__ := a_Count___eq__
    fn_Count___eq__ := i_Count___eq__
    fi_Count___ne__ := a_Count___ne__
    fn_Count___ne__ := i_Count___ne__
    na_Count_first := na_Count_first
    na_Count_row := na_Count_row
    kw_Count := Fun.bindsK F_Count___init__ fun _ _ _ _ _ _ u ws hl => match ws, hl with | [_, _], _ => rfl
    nf_Count := by
      intro c hc
      simp only [List.mem_cons, List.not_mem_nil, or_false] at hc
      rcases hc with rfl | rfl | rfl | rfl | rfl | rfl | rfl
      · exact ⟨_, g_Count, nf_Count_Count⟩
      · exact ⟨_, g_Follows, nf_Count_Follows⟩
      · exact ⟨_, g_Breaks, nf_Count_Breaks⟩
      · exact ⟨_, g_Series, nf_Count_Series⟩
      · exact ⟨_, g_NoSeries, nf_Count_NoSeries⟩
      · exact ⟨_, g_Model, nf_Count_Model⟩
      · exact ⟨_, g_Paper, nf_Count_Paper⟩
    kt_Count := by
      intro c hc
      simp only [List.mem_cons, List.not_mem_nil, or_false] at hc
      rcases hc with rfl | rfl | rfl | rfl | rfl | rfl | rfl
      · exact ⟨_, g_Count, ow_Count, kit_eq⟩
      · exact ⟨_, g_Follows, ow_Follows, kit_ne ne_Count_Follows ic_Count ty_Count su_Count_Follows⟩
      · exact ⟨_, g_Breaks, ow_Breaks, kit_ne ne_Count_Breaks ic_Count ty_Count su_Count_Breaks⟩
      · exact ⟨_, g_Series, ow_Series, kit_ne ne_Count_Series ic_Count ty_Count su_Count_Series⟩
      · exact ⟨_, g_NoSeries, ow_NoSeries, kit_ne ne_Count_NoSeries ic_Count ty_Count su_Count_NoSeries⟩
      · exact ⟨_, g_Model, ow_Model, kit_ne ne_Count_Model ic_Count ty_Count su_Count_Model⟩
      · exact ⟨_, g_Paper, ow_Paper, kit_ne ne_Count_Paper ic_Count ty_Count su_Count_Paper⟩
    g_Follows := g_Follows
    cl_Follows := ow_Follows.cl
    ow_Follows := ow_Follows
    mk_Follows := ⟨mk_Follows, a_Follows___init__, i_Follows___init__, kc_Follows⟩
    fi_Follows___eq__ := a_Follows___eq__
    fn_Follows___eq__ := i_Follows___eq__
    fi_Follows___ne__ := a_Follows___ne__
    fn_Follows___ne__ := i_Follows___ne__
    na_Follows_ops := na_Follows_ops
    kw_Follows := Fun.bindsK F_Follows___init__ fun _ _ _ _ _ _ u ws hl => match ws, hl with | [_], _ => rfl
    nf_Follows := by
      intro c hc
      simp only [List.mem_cons, List.not_mem_nil, or_false] at hc
      rcases hc with rfl | rfl | rfl | rfl | rfl | rfl | rfl
      · exact ⟨_, g_Count, nf_Follows_Count⟩
      · exact ⟨_, g_Follows, nf_Follows_Follows⟩
      · exact ⟨_, g_Breaks, nf_Follows_Breaks⟩
      · exact ⟨_, g_Series, nf_Follows_Series⟩
      · exact ⟨_, g_NoSeries, nf_Follows_NoSeries⟩
      · exact ⟨_, g_Model, nf_Follows_Model⟩
      · exact ⟨_, g_Paper, nf_Follows_Paper⟩
    kt_Follows := by
      intro c hc
      simp only [List.mem_cons, List.not_mem_nil, or_false] at hc
      rcases hc with rfl | rfl | rfl | rfl | rfl | rfl | rfl
      · exact ⟨_, g_Count, ow_Count, kit_ne ne_Follows_Count ic_Follows ty_Follows su_Follows_Count⟩
      · exact ⟨_, g_Follows, ow_Follows, kit_eq⟩
      · exact ⟨_, g_Breaks, ow_Breaks, kit_ne ne_Follows_Breaks ic_Follows ty_Follows su_Follows_Breaks⟩
      · exact ⟨_, g_Series, ow_Series, kit_ne ne_Follows_Series ic_Follows ty_Follows su_Follows_Series⟩
      · exact ⟨_, g_NoSeries, ow_NoSeries, kit_ne ne_Follows_NoSeries ic_Follows ty_Follows su_Follows_NoSeries⟩
      · exact ⟨_, g_Model, ow_Model, kit_ne ne_Follows_Model ic_Follows ty_Follows su_Follows_Model⟩
      · exact ⟨_, g_Paper, ow_Paper, kit_ne ne_Follows_Paper ic_Follows ty_Follows su_Follows_Paper⟩
    g_Breaks := g_Breaks
    cl_Breaks := ow_Breaks.cl
    ow_Breaks := ow_Breaks
    mk_Breaks := ⟨mk_Breaks, a_Breaks___init__, i_Breaks___init__, kc_Breaks⟩
    fi_Breaks___eq__ := a_Breaks___eq__
    fn_Breaks___eq__ := i_Breaks___eq__
    fi_Breaks___ne__ := a_Breaks___ne__
    fn_Breaks___ne__ := i_Breaks___ne__
    na_Breaks_point := na_Breaks_point
    na_Breaks_derivative := na_Breaks_derivative
    kw_Breaks := Fun.bindsK F_Breaks___init__ fun _ _ _ _ _ _ u ws hl => match ws, hl with | [_, _], _ => rfl
    nf_Breaks := by
      intro c hc
      simp only [List.mem_cons, List.not_mem_nil, or_false] at hc
      rcases hc with rfl | rfl | rfl | rfl | rfl | rfl | rfl
      · exact ⟨_, g_Count, nf_Breaks_Count⟩
      · exact ⟨_, g_Follows, nf_Breaks_Follows⟩
      · exact ⟨_, g_Breaks, nf_Breaks_Breaks⟩
      · exact ⟨_, g_Series, nf_Breaks_Series⟩
      · exact ⟨_, g_NoSeries, nf_Breaks_NoSeries⟩
      · exact ⟨_, g_Model, nf_Breaks_Model⟩
      · exact ⟨_, g_Paper, nf_Breaks_Paper⟩
    kt_Breaks := by
      intro c hc
      simp only [List.mem_cons, List.not_mem_nil, or_false] at hc
      rcases hc with rfl | rfl | rfl | rfl | rfl | rfl | rfl
      · exact ⟨_, g_Count, ow_Count, kit_ne ne_Breaks_Count ic_Breaks ty_Breaks su_Breaks_Count⟩
      · exact ⟨_, g_Follows, ow_Follows, kit_ne ne_Breaks_Follows ic_Breaks ty_Breaks su_Breaks_Follows⟩
      · exact ⟨_, g_Breaks, ow_Breaks, kit_eq⟩
      · exact ⟨_, g_Series, ow_Series, kit_ne ne_Breaks_Series ic_Breaks ty_Breaks su_Breaks_Series⟩
      · exact ⟨_, g_NoSeries, ow_NoSeries, kit_ne ne_Breaks_NoSeries ic_Breaks ty_Breaks su_Breaks_NoSeries⟩
      · exact ⟨_, g_Model, ow_Model, kit_ne ne_Breaks_Model ic_Breaks ty_Breaks su_Breaks_Model⟩
      · exact ⟨_, g_Paper, ow_Paper, kit_ne ne_Breaks_Paper ic_Breaks ty_Breaks su_Breaks_Paper⟩
    g_Series := g_Series
    cl_Series := ow_Series.cl
    ow_Series := ow_Series
    mk_Series := ⟨mk_Series, a_Series___init__, i_Series___init__, kc_Series⟩
    fi_Series___eq__ := a_Series___eq__
    fn_Series___eq__ := i_Series___eq__
    fi_Series___ne__ := a_Series___ne__
    fn_Series___ne__ := i_Series___ne__
    na_Series_row := na_Series_row
    kw_Series := Fun.bindsK F_Series___init__ fun _ _ _ _ _ _ u ws hl => match ws, hl with | [_], _ => rfl
    nf_Series := by
      intro c hc
      simp only [List.mem_cons, List.not_mem_nil, or_false] at hc
      rcases hc with rfl | rfl | rfl | rfl | rfl | rfl | rfl
      · exact ⟨_, g_Count, nf_Series_Count⟩
      · exact ⟨_, g_Follows, nf_Series_Follows⟩
      · exact ⟨_, g_Breaks, nf_Series_Breaks⟩
      · exact ⟨_, g_Series, nf_Series_Series⟩
      · exact ⟨_, g_NoSeries, nf_Series_NoSeries⟩
      · exact ⟨_, g_Model, nf_Series_Model⟩
      · exact ⟨_, g_Paper, nf_Series_Paper⟩
    kt_Series := by
      intro c hc
      simp only [List.mem_cons, List.not_mem_nil, or_false] at hc
      rcases hc with rfl | rfl | rfl | rfl | rfl | rfl | rfl
      · exact ⟨_, g_Count, ow_Count, kit_ne ne_Series_Count ic_Series ty_Series su_Series_Count⟩
      · exact ⟨_, g_Follows, ow_Follows, kit_ne ne_Series_Follows ic_Series ty_Series su_Series_Follows⟩
      · exact ⟨_, g_Breaks, ow_Breaks, kit_ne ne_Series_Breaks ic_Series ty_Series su_Series_Breaks⟩
      · exact ⟨_, g_Series, ow_Series, kit_eq⟩
      · exact ⟨_, g_NoSeries, ow_NoSeries, kit_ne ne_Series_NoSeries ic_Series ty_Series su_Series_NoSeries⟩
      · exact ⟨_, g_Model, ow_Model, kit_ne ne_Series_Model ic_Series ty_Series su_Series_Model⟩
      · exact ⟨_, g_Paper, ow_Paper, kit_ne ne_Series_Paper ic_Series ty_Series su_Series_Paper⟩
    g_NoSeries := g_NoSeries
    cl_NoSeries := ow_NoSeries.cl
    ow_NoSeries := ow_NoSeries
    mk_NoSeries := ⟨mk_NoSeries, a_NoSeries___init__, i_NoSeries___init__, kc_NoSeries⟩
    fi_NoSeries___eq__ := a_NoSeries___eq__
    fn_NoSeries___eq__ := i_NoSeries___eq__
    fi_NoSeries___ne__ := a_NoSeries___ne__
    fn_NoSeries___ne__ := i_NoSeries___ne__
    na_NoSeries_what := na_NoSeries_what
    kw_NoSeries := Fun.bindsK F_NoSeries___init__ fun _ _ _ _ _ _ u ws hl => match ws, hl with | [_], _ => rfl
    nf_NoSeries := by
      intro c hc
      simp only [List.mem_cons, List.not_mem_nil, or_false] at hc
      rcases hc with rfl | rfl | rfl | rfl | rfl | rfl | rfl
      · exact ⟨_, g_Count, nf_NoSeries_Count⟩
      · exact ⟨_, g_Follows, nf_NoSeries_Follows⟩
      · exact ⟨_, g_Breaks, nf_NoSeries_Breaks⟩
      · exact ⟨_, g_Series, nf_NoSeries_Series⟩
      · exact ⟨_, g_NoSeries, nf_NoSeries_NoSeries⟩
      · exact ⟨_, g_Model, nf_NoSeries_Model⟩
      · exact ⟨_, g_Paper, nf_NoSeries_Paper⟩
    kt_NoSeries := by
      intro c hc
      simp only [List.mem_cons, List.not_mem_nil, or_false] at hc
      rcases hc with rfl | rfl | rfl | rfl | rfl | rfl | rfl
      · exact ⟨_, g_Count, ow_Count, kit_ne ne_NoSeries_Count ic_NoSeries ty_NoSeries su_NoSeries_Count⟩
      · exact ⟨_, g_Follows, ow_Follows, kit_ne ne_NoSeries_Follows ic_NoSeries ty_NoSeries su_NoSeries_Follows⟩
      · exact ⟨_, g_Breaks, ow_Breaks, kit_ne ne_NoSeries_Breaks ic_NoSeries ty_NoSeries su_NoSeries_Breaks⟩
      · exact ⟨_, g_Series, ow_Series, kit_ne ne_NoSeries_Series ic_NoSeries ty_NoSeries su_NoSeries_Series⟩
      · exact ⟨_, g_NoSeries, ow_NoSeries, kit_eq⟩
      · exact ⟨_, g_Model, ow_Model, kit_ne ne_NoSeries_Model ic_NoSeries ty_NoSeries su_NoSeries_Model⟩
      · exact ⟨_, g_Paper, ow_Paper, kit_ne ne_NoSeries_Paper ic_NoSeries ty_NoSeries su_NoSeries_Paper⟩
    g_Model := g_Model
    cl_Model := ow_Model.cl
    ow_Model := ow_Model
    mk_Model := ⟨mk_Model, a_Model___init__, i_Model___init__, kc_Model⟩
    fi_Model___eq__ := a_Model___eq__
    fn_Model___eq__ := i_Model___eq__
    fi_Model___ne__ := a_Model___ne__
    fn_Model___ne__ := i_Model___ne__
    na_Model_letters := na_Model_letters
    na_Model_unknowns := na_Model_unknowns
    na_Model_kind := na_Model_kind
    na_Model_told := na_Model_told
    na_Model_asks := na_Model_asks
    kw_Model := Fun.bindsK F_Model___init__ fun _ _ _ _ _ _ u ws hl => match ws, hl with | [_, _, _, _, _], _ => rfl
    nf_Model := by
      intro c hc
      simp only [List.mem_cons, List.not_mem_nil, or_false] at hc
      rcases hc with rfl | rfl | rfl | rfl | rfl | rfl | rfl
      · exact ⟨_, g_Count, nf_Model_Count⟩
      · exact ⟨_, g_Follows, nf_Model_Follows⟩
      · exact ⟨_, g_Breaks, nf_Model_Breaks⟩
      · exact ⟨_, g_Series, nf_Model_Series⟩
      · exact ⟨_, g_NoSeries, nf_Model_NoSeries⟩
      · exact ⟨_, g_Model, nf_Model_Model⟩
      · exact ⟨_, g_Paper, nf_Model_Paper⟩
    kt_Model := by
      intro c hc
      simp only [List.mem_cons, List.not_mem_nil, or_false] at hc
      rcases hc with rfl | rfl | rfl | rfl | rfl | rfl | rfl
      · exact ⟨_, g_Count, ow_Count, kit_ne ne_Model_Count ic_Model ty_Model su_Model_Count⟩
      · exact ⟨_, g_Follows, ow_Follows, kit_ne ne_Model_Follows ic_Model ty_Model su_Model_Follows⟩
      · exact ⟨_, g_Breaks, ow_Breaks, kit_ne ne_Model_Breaks ic_Model ty_Model su_Model_Breaks⟩
      · exact ⟨_, g_Series, ow_Series, kit_ne ne_Model_Series ic_Model ty_Model su_Model_Series⟩
      · exact ⟨_, g_NoSeries, ow_NoSeries, kit_ne ne_Model_NoSeries ic_Model ty_Model su_Model_NoSeries⟩
      · exact ⟨_, g_Model, ow_Model, kit_eq⟩
      · exact ⟨_, g_Paper, ow_Paper, kit_ne ne_Model_Paper ic_Model ty_Model su_Model_Paper⟩
    g_Paper := g_Paper
    cl_Paper := ow_Paper.cl
    ow_Paper := ow_Paper
    mk_Paper := ⟨mk_Paper, a_Paper___init__, i_Paper___init__, kc_Paper⟩
    fi_Paper___eq__ := a_Paper___eq__
    fn_Paper___eq__ := i_Paper___eq__
    fi_Paper___ne__ := a_Paper___ne__
    fn_Paper___ne__ := i_Paper___ne__
    na_Paper_unless := na_Paper_unless
    na_Paper_shares := na_Paper_shares
    na_Paper_made := na_Paper_made
    na_Paper_back := na_Paper_back
    na_Paper_pairs := na_Paper_pairs
    na_Paper_asked := na_Paper_asked
    kw_Paper := Fun.bindsK F_Paper___init__ fun _ _ _ _ _ _ u ws hl => match ws, hl with | [_, _, _, _, _, _], _ => rfl
    nf_Paper := by
      intro c hc
      simp only [List.mem_cons, List.not_mem_nil, or_false] at hc
      rcases hc with rfl | rfl | rfl | rfl | rfl | rfl | rfl
      · exact ⟨_, g_Count, nf_Paper_Count⟩
      · exact ⟨_, g_Follows, nf_Paper_Follows⟩
      · exact ⟨_, g_Breaks, nf_Paper_Breaks⟩
      · exact ⟨_, g_Series, nf_Paper_Series⟩
      · exact ⟨_, g_NoSeries, nf_Paper_NoSeries⟩
      · exact ⟨_, g_Model, nf_Paper_Model⟩
      · exact ⟨_, g_Paper, nf_Paper_Paper⟩
    kt_Paper := by
      intro c hc
      simp only [List.mem_cons, List.not_mem_nil, or_false] at hc
      rcases hc with rfl | rfl | rfl | rfl | rfl | rfl | rfl
      · exact ⟨_, g_Count, ow_Count, kit_ne ne_Paper_Count ic_Paper ty_Paper su_Paper_Count⟩
      · exact ⟨_, g_Follows, ow_Follows, kit_ne ne_Paper_Follows ic_Paper ty_Paper su_Paper_Follows⟩
      · exact ⟨_, g_Breaks, ow_Breaks, kit_ne ne_Paper_Breaks ic_Paper ty_Paper su_Paper_Breaks⟩
      · exact ⟨_, g_Series, ow_Series, kit_ne ne_Paper_Series ic_Paper ty_Paper su_Paper_Series⟩
      · exact ⟨_, g_NoSeries, ow_NoSeries, kit_ne ne_Paper_NoSeries ic_Paper ty_Paper su_Paper_NoSeries⟩
      · exact ⟨_, g_Model, ow_Model, kit_ne ne_Paper_Model ic_Paper ty_Paper su_Paper_Model⟩
      · exact ⟨_, g_Paper, ow_Paper, kit_eq⟩
  }
  exact ⟨_, fun s v => .of_eq rfl, fun base _ _ sys => fn_law (T base sys)⟩
end K90
open PySem PySem.W PyProof.Rows in
set_option maxRecDepth 100000 in
set_option maxHeartbeats 0 in
theorem PySem.Challenge.cw_partialpapers_k90_classes_made_by_hand_holds : PySem.Challenge.rw_partialpapers_k90_classes_made_by_hand.Holds := by
  w_on; o_law; k_head; (case hw => w_witness2)
  k_fill
  refine DL.walkG (l := PySem.Challenge.rw_partialpapers_k90_classes_made_by_hand) (n := 63) (k := 5) (x := "script") (fl := K90.fl) (m := K90.m_law) rfl (by decide) rfl ⟨⟨rfl, by decide, by decide⟩, rfl⟩ (by rfl) (fun w h Y => PySem.W.kIn_of Y) ?F (fun ns hl => K90.law_holds ns hl)
  case F =>
    intro w mg fa h KX G hmg
    refine' K90.all_mk KX G hmg ?aC_Count ?aC_Follows ?aC_Breaks ?aC_Series ?aC_NoSeries ?aC_Model ?aC_Paper ?a_copied ?l_copied ?c_copied ?k_copied ?a_Count___init__ ?i_Count___init__ ?l_Count___init__ ?c_Count___init__ ?k_Count___init__ ?a_Count___eq__ ?i_Count___eq__ ?l_Count___eq__ ?c_Count___eq__ ?k_Count___eq__ ?a_Follows___init__ ?i_Follows___init__ ?l_Follows___init__ ?c_Follows___init__ ?k_Follows___init__ ?a_Follows___eq__ ?i_Follows___eq__ ?l_Follows___eq__ ?c_Follows___eq__ ?k_Follows___eq__ ?a_Breaks___init__ ?i_Breaks___init__ ?l_Breaks___init__ ?c_Breaks___init__ ?k_Breaks___init__ ?a_Breaks___eq__ ?i_Breaks___eq__ ?l_Breaks___eq__ ?c_Breaks___eq__ ?k_Breaks___eq__ ?a_Series___init__ ?i_Series___init__ ?l_Series___init__ ?c_Series___init__ ?k_Series___init__ ?a_Series___eq__ ?i_Series___eq__ ?l_Series___eq__ ?c_Series___eq__ ?k_Series___eq__ ?a_NoSeries___init__ ?i_NoSeries___init__ ?l_NoSeries___init__ ?c_NoSeries___init__ ?k_NoSeries___init__ ?a_NoSeries___eq__ ?i_NoSeries___eq__ ?l_NoSeries___eq__ ?c_NoSeries___eq__ ?k_NoSeries___eq__ ?a_Model___init__ ?i_Model___init__ ?l_Model___init__ ?c_Model___init__ ?k_Model___init__ ?a_model_key ?l_model_key ?c_model_key ?k_model_key ?a_Model___eq__ ?i_Model___eq__ ?l_Model___eq__ ?c_Model___eq__ ?k_Model___eq__ ?a_Paper___init__ ?i_Paper___init__ ?l_Paper___init__ ?c_Paper___init__ ?k_Paper___init__ ?a_paper_key ?l_paper_key ?c_paper_key ?k_paper_key ?a_Paper___eq__ ?i_Paper___eq__ ?l_Paper___eq__ ?c_Paper___eq__ ?k_Paper___eq__ ?a_Count___ne__ ?i_Count___ne__ ?l_Count___ne__ ?c_Count___ne__ ?k_Count___ne__ ?a_Follows___ne__ ?i_Follows___ne__ ?l_Follows___ne__ ?c_Follows___ne__ ?k_Follows___ne__ ?a_Breaks___ne__ ?i_Breaks___ne__ ?l_Breaks___ne__ ?c_Breaks___ne__ ?k_Breaks___ne__ ?a_Series___ne__ ?i_Series___ne__ ?l_Series___ne__ ?c_Series___ne__ ?k_Series___ne__ ?a_NoSeries___ne__ ?i_NoSeries___ne__ ?l_NoSeries___ne__ ?c_NoSeries___ne__ ?k_NoSeries___ne__ ?a_Model___ne__ ?i_Model___ne__ ?l_Model___ne__ ?c_Model___ne__ ?k_Model___ne__ ?a_Paper___ne__ ?i_Paper___ne__ ?l_Paper___ne__ ?c_Paper___ne__ ?k_Paper___ne__ ?a__law_pen ?l__law_pen ?c__law_pen ?k__law_pen ?a__law_draw ?l__law_draw ?c__law_draw ?k__law_draw ?a__law_pick ?l__law_pick ?c__law_pick ?k__law_pick ?a__law_value ?l__law_value ?c__law_value ?k__law_value ?a__law_copy ?l__law_copy ?c__law_copy ?k__law_copy ?a__law_fields ?l__law_fields ?c__law_fields ?k__law_fields ?a__law_rows ?l__law_rows ?c__law_rows ?k__law_rows ?a_law ?l_law ?c_law ?k_law ?hn_ ?htk_ ?pg_Count ?hd_Count ?po_Count ?sa_Count ?ha_Count ?hm_Count ?mk_Count ?kc_Count ?na_Count_first ?na_Count_row ?pg_Follows ?hd_Follows ?po_Follows ?sa_Follows ?ha_Follows ?hm_Follows ?mk_Follows ?kc_Follows ?na_Follows_ops ?pg_Breaks ?hd_Breaks ?po_Breaks ?sa_Breaks ?ha_Breaks ?hm_Breaks ?mk_Breaks ?kc_Breaks ?na_Breaks_point ?na_Breaks_derivative ?pg_Series ?hd_Series ?po_Series ?sa_Series ?ha_Series ?hm_Series ?mk_Series ?kc_Series ?na_Series_row ?pg_NoSeries ?hd_NoSeries ?po_NoSeries ?sa_NoSeries ?ha_NoSeries ?hm_NoSeries ?mk_NoSeries ?kc_NoSeries ?na_NoSeries_what ?pg_Model ?hd_Model ?po_Model ?sa_Model ?ha_Model ?hm_Model ?mk_Model ?kc_Model ?na_Model_letters ?na_Model_unknowns ?na_Model_kind ?na_Model_told ?na_Model_asks ?pg_Paper ?hd_Paper ?po_Paper ?sa_Paper ?ha_Paper ?hm_Paper ?mk_Paper ?kc_Paper ?na_Paper_unless ?na_Paper_shares ?na_Paper_made ?na_Paper_back ?na_Paper_pairs ?na_Paper_asked ?ic_Count ?ty_Count ?nf_Count_Count ?nf_Count_Follows ?su_Count_Follows ?ne_Count_Follows ?nf_Count_Breaks ?su_Count_Breaks ?ne_Count_Breaks ?nf_Count_Series ?su_Count_Series ?ne_Count_Series ?nf_Count_NoSeries ?su_Count_NoSeries ?ne_Count_NoSeries ?nf_Count_Model ?su_Count_Model ?ne_Count_Model ?nf_Count_Paper ?su_Count_Paper ?ne_Count_Paper ?ic_Follows ?ty_Follows ?nf_Follows_Count ?su_Follows_Count ?ne_Follows_Count ?nf_Follows_Follows ?nf_Follows_Breaks ?su_Follows_Breaks ?ne_Follows_Breaks ?nf_Follows_Series ?su_Follows_Series ?ne_Follows_Series ?nf_Follows_NoSeries ?su_Follows_NoSeries ?ne_Follows_NoSeries ?nf_Follows_Model ?su_Follows_Model ?ne_Follows_Model ?nf_Follows_Paper ?su_Follows_Paper ?ne_Follows_Paper ?ic_Breaks ?ty_Breaks ?nf_Breaks_Count ?su_Breaks_Count ?ne_Breaks_Count ?nf_Breaks_Follows ?su_Breaks_Follows ?ne_Breaks_Follows ?nf_Breaks_Breaks ?nf_Breaks_Series ?su_Breaks_Series ?ne_Breaks_Series ?nf_Breaks_NoSeries ?su_Breaks_NoSeries ?ne_Breaks_NoSeries ?nf_Breaks_Model ?su_Breaks_Model ?ne_Breaks_Model ?nf_Breaks_Paper ?su_Breaks_Paper ?ne_Breaks_Paper ?ic_Series ?ty_Series ?nf_Series_Count ?su_Series_Count ?ne_Series_Count ?nf_Series_Follows ?su_Series_Follows ?ne_Series_Follows ?nf_Series_Breaks ?su_Series_Breaks ?ne_Series_Breaks ?nf_Series_Series ?nf_Series_NoSeries ?su_Series_NoSeries ?ne_Series_NoSeries ?nf_Series_Model ?su_Series_Model ?ne_Series_Model ?nf_Series_Paper ?su_Series_Paper ?ne_Series_Paper ?ic_NoSeries ?ty_NoSeries ?nf_NoSeries_Count ?su_NoSeries_Count ?ne_NoSeries_Count ?nf_NoSeries_Follows ?su_NoSeries_Follows ?ne_NoSeries_Follows ?nf_NoSeries_Breaks ?su_NoSeries_Breaks ?ne_NoSeries_Breaks ?nf_NoSeries_Series ?su_NoSeries_Series ?ne_NoSeries_Series ?nf_NoSeries_NoSeries ?nf_NoSeries_Model ?su_NoSeries_Model ?ne_NoSeries_Model ?nf_NoSeries_Paper ?su_NoSeries_Paper ?ne_NoSeries_Paper ?ic_Model ?ty_Model ?nf_Model_Count ?su_Model_Count ?ne_Model_Count ?nf_Model_Follows ?su_Model_Follows ?ne_Model_Follows ?nf_Model_Breaks ?su_Model_Breaks ?ne_Model_Breaks ?nf_Model_Series ?su_Model_Series ?ne_Model_Series ?nf_Model_NoSeries ?su_Model_NoSeries ?ne_Model_NoSeries ?nf_Model_Model ?nf_Model_Paper ?su_Model_Paper ?ne_Model_Paper ?ic_Paper ?ty_Paper ?nf_Paper_Count ?su_Paper_Count ?ne_Paper_Count ?nf_Paper_Follows ?su_Paper_Follows ?ne_Paper_Follows ?nf_Paper_Breaks ?su_Paper_Breaks ?ne_Paper_Breaks ?nf_Paper_Series ?su_Paper_Series ?ne_Paper_Series ?nf_Paper_NoSeries ?su_Paper_NoSeries ?ne_Paper_NoSeries ?nf_Paper_Model ?su_Paper_Model ?ne_Paper_Model ?nf_Paper_Paper ?z_len ?z_repr ?z_isinstance ?z_int ?z_tuple ?z_list ?z_range
    (case aC_Count => k_is)
    (case aC_Follows => k_is)
    (case aC_Breaks => k_is)
    (case aC_Series => k_is)
    (case aC_NoSeries => k_is)
    (case aC_Model => k_is)
    (case aC_Paper => k_is)
    (case a_copied => k_is)
    (case l_copied => k_is)
    (case c_copied => k_is)
    (case k_copied => k_is)
    (case a_Count___init__ => k_is)
    (case i_Count___init__ => k_is)
    (case l_Count___init__ => k_is)
    (case c_Count___init__ => k_is)
    (case k_Count___init__ => k_is)
    (case a_Count___eq__ => k_is)
    (case i_Count___eq__ => k_is)
    (case l_Count___eq__ => k_is)
    (case c_Count___eq__ => k_is)
    (case k_Count___eq__ => k_is)
    (case a_Follows___init__ => k_is)
    (case i_Follows___init__ => k_is)
    (case l_Follows___init__ => k_is)
    (case c_Follows___init__ => k_is)
    (case k_Follows___init__ => k_is)
    (case a_Follows___eq__ => k_is)
    (case i_Follows___eq__ => k_is)
    (case l_Follows___eq__ => k_is)
    (case c_Follows___eq__ => k_is)
    (case k_Follows___eq__ => k_is)
    (case a_Breaks___init__ => k_is)
    (case i_Breaks___init__ => k_is)
    (case l_Breaks___init__ => k_is)
    (case c_Breaks___init__ => k_is)
    (case k_Breaks___init__ => k_is)
    (case a_Breaks___eq__ => k_is)
    (case i_Breaks___eq__ => k_is)
    (case l_Breaks___eq__ => k_is)
    (case c_Breaks___eq__ => k_is)
    (case k_Breaks___eq__ => k_is)
    (case a_Series___init__ => k_is)
    (case i_Series___init__ => k_is)
    (case l_Series___init__ => k_is)
    (case c_Series___init__ => k_is)
    (case k_Series___init__ => k_is)
    (case a_Series___eq__ => k_is)
    (case i_Series___eq__ => k_is)
    (case l_Series___eq__ => k_is)
    (case c_Series___eq__ => k_is)
    (case k_Series___eq__ => k_is)
    (case a_NoSeries___init__ => k_is)
    (case i_NoSeries___init__ => k_is)
    (case l_NoSeries___init__ => k_is)
    (case c_NoSeries___init__ => k_is)
    (case k_NoSeries___init__ => k_is)
    (case a_NoSeries___eq__ => k_is)
    (case i_NoSeries___eq__ => k_is)
    (case l_NoSeries___eq__ => k_is)
    (case c_NoSeries___eq__ => k_is)
    (case k_NoSeries___eq__ => k_is)
    (case a_Model___init__ => k_is)
    (case i_Model___init__ => k_is)
    (case l_Model___init__ => k_is)
    (case c_Model___init__ => k_is)
    (case k_Model___init__ => k_is)
    (case a_model_key => k_is)
    (case l_model_key => k_is)
    (case c_model_key => k_is)
    (case k_model_key => k_is)
    (case a_Model___eq__ => k_is)
    (case i_Model___eq__ => k_is)
    (case l_Model___eq__ => k_is)
    (case c_Model___eq__ => k_is)
    (case k_Model___eq__ => k_is)
    (case a_Paper___init__ => k_is)
    (case i_Paper___init__ => k_is)
    (case l_Paper___init__ => k_is)
    (case c_Paper___init__ => k_is)
    (case k_Paper___init__ => k_is)
    (case a_paper_key => k_is)
    (case l_paper_key => k_is)
    (case c_paper_key => k_is)
    (case k_paper_key => k_is)
    (case a_Paper___eq__ => k_is)
    (case i_Paper___eq__ => k_is)
    (case l_Paper___eq__ => k_is)
    (case c_Paper___eq__ => k_is)
    (case k_Paper___eq__ => k_is)
    (case a_Count___ne__ => k_is)
    (case i_Count___ne__ => k_is)
    (case l_Count___ne__ => k_is)
    (case c_Count___ne__ => k_is)
    (case k_Count___ne__ => k_is)
    (case a_Follows___ne__ => k_is)
    (case i_Follows___ne__ => k_is)
    (case l_Follows___ne__ => k_is)
    (case c_Follows___ne__ => k_is)
    (case k_Follows___ne__ => k_is)
    (case a_Breaks___ne__ => k_is)
    (case i_Breaks___ne__ => k_is)
    (case l_Breaks___ne__ => k_is)
    (case c_Breaks___ne__ => k_is)
    (case k_Breaks___ne__ => k_is)
    (case a_Series___ne__ => k_is)
    (case i_Series___ne__ => k_is)
    (case l_Series___ne__ => k_is)
    (case c_Series___ne__ => k_is)
    (case k_Series___ne__ => k_is)
    (case a_NoSeries___ne__ => k_is)
    (case i_NoSeries___ne__ => k_is)
    (case l_NoSeries___ne__ => k_is)
    (case c_NoSeries___ne__ => k_is)
    (case k_NoSeries___ne__ => k_is)
    (case a_Model___ne__ => k_is)
    (case i_Model___ne__ => k_is)
    (case l_Model___ne__ => k_is)
    (case c_Model___ne__ => k_is)
    (case k_Model___ne__ => k_is)
    (case a_Paper___ne__ => k_is)
    (case i_Paper___ne__ => k_is)
    (case l_Paper___ne__ => k_is)
    (case c_Paper___ne__ => k_is)
    (case k_Paper___ne__ => k_is)
    (case a__law_pen => k_is)
    (case l__law_pen => k_is)
    (case c__law_pen => k_is)
    (case k__law_pen => k_is)
    (case a__law_draw => k_is)
    (case l__law_draw => k_is)
    (case c__law_draw => k_is)
    (case k__law_draw => k_is)
    (case a__law_pick => k_is)
    (case l__law_pick => k_is)
    (case c__law_pick => k_is)
    (case k__law_pick => k_is)
    (case a__law_value => k_is)
    (case l__law_value => k_is)
    (case c__law_value => k_is)
    (case k__law_value => k_is)
    (case a__law_copy => k_is)
    (case l__law_copy => k_is)
    (case c__law_copy => k_is)
    (case k__law_copy => k_is)
    (case a__law_fields => k_is)
    (case l__law_fields => k_is)
    (case c__law_fields => k_is)
    (case k__law_fields => k_is)
    (case a__law_rows => k_is)
    (case l__law_rows => k_is)
    (case c__law_rows => k_is)
    (case k__law_rows => k_is)
    (case a_law => k_is)
    (case l_law => k_is)
    (case c_law => k_is)
    (case k_law => k_is)
    (case hn_ => k_is)
    (case htk_ => k_is)
    (case pg_Count => k_is)
    (case hd_Count => k_is)
    (case po_Count => k_is)
    (case sa_Count => k_is)
    (case ha_Count => k_is)
    (case hm_Count => k_is)
    (case mk_Count => k_is)
    (case kc_Count => k_is)
    (case na_Count_first => k_is)
    (case na_Count_row => k_is)
    (case pg_Follows => k_is)
    (case hd_Follows => k_is)
    (case po_Follows => k_is)
    (case sa_Follows => k_is)
    (case ha_Follows => k_is)
    (case hm_Follows => k_is)
    (case mk_Follows => k_is)
    (case kc_Follows => k_is)
    (case na_Follows_ops => k_is)
    (case pg_Breaks => k_is)
    (case hd_Breaks => k_is)
    (case po_Breaks => k_is)
    (case sa_Breaks => k_is)
    (case ha_Breaks => k_is)
    (case hm_Breaks => k_is)
    (case mk_Breaks => k_is)
    (case kc_Breaks => k_is)
    (case na_Breaks_point => k_is)
    (case na_Breaks_derivative => k_is)
    (case pg_Series => k_is)
    (case hd_Series => k_is)
    (case po_Series => k_is)
    (case sa_Series => k_is)
    (case ha_Series => k_is)
    (case hm_Series => k_is)
    (case mk_Series => k_is)
    (case kc_Series => k_is)
    (case na_Series_row => k_is)
    (case pg_NoSeries => k_is)
    (case hd_NoSeries => k_is)
    (case po_NoSeries => k_is)
    (case sa_NoSeries => k_is)
    (case ha_NoSeries => k_is)
    (case hm_NoSeries => k_is)
    (case mk_NoSeries => k_is)
    (case kc_NoSeries => k_is)
    (case na_NoSeries_what => k_is)
    (case pg_Model => k_is)
    (case hd_Model => k_is)
    (case po_Model => k_is)
    (case sa_Model => k_is)
    (case ha_Model => k_is)
    (case hm_Model => k_is)
    (case mk_Model => k_is)
    (case kc_Model => k_is)
    (case na_Model_letters => k_is)
    (case na_Model_unknowns => k_is)
    (case na_Model_kind => k_is)
    (case na_Model_told => k_is)
    (case na_Model_asks => k_is)
    (case pg_Paper => k_is)
    (case hd_Paper => k_is)
    (case po_Paper => k_is)
    (case sa_Paper => k_is)
    (case ha_Paper => k_is)
    (case hm_Paper => k_is)
    (case mk_Paper => k_is)
    (case kc_Paper => k_is)
    (case na_Paper_unless => k_is)
    (case na_Paper_shares => k_is)
    (case na_Paper_made => k_is)
    (case na_Paper_back => k_is)
    (case na_Paper_pairs => k_is)
    (case na_Paper_asked => k_is)
    (case ic_Count => k_is)
    (case ty_Count => k_is)
    (case nf_Count_Count => k_is)
    (case nf_Count_Follows => k_is)
    (case su_Count_Follows => k_is)
    (case ne_Count_Follows => decide)
    (case nf_Count_Breaks => k_is)
    (case su_Count_Breaks => k_is)
    (case ne_Count_Breaks => decide)
    (case nf_Count_Series => k_is)
    (case su_Count_Series => k_is)
    (case ne_Count_Series => decide)
    (case nf_Count_NoSeries => k_is)
    (case su_Count_NoSeries => k_is)
    (case ne_Count_NoSeries => decide)
    (case nf_Count_Model => k_is)
    (case su_Count_Model => k_is)
    (case ne_Count_Model => decide)
    (case nf_Count_Paper => k_is)
    (case su_Count_Paper => k_is)
    (case ne_Count_Paper => decide)
    (case ic_Follows => k_is)
    (case ty_Follows => k_is)
    (case nf_Follows_Count => k_is)
    (case su_Follows_Count => k_is)
    (case ne_Follows_Count => decide)
    (case nf_Follows_Follows => k_is)
    (case nf_Follows_Breaks => k_is)
    (case su_Follows_Breaks => k_is)
    (case ne_Follows_Breaks => decide)
    (case nf_Follows_Series => k_is)
    (case su_Follows_Series => k_is)
    (case ne_Follows_Series => decide)
    (case nf_Follows_NoSeries => k_is)
    (case su_Follows_NoSeries => k_is)
    (case ne_Follows_NoSeries => decide)
    (case nf_Follows_Model => k_is)
    (case su_Follows_Model => k_is)
    (case ne_Follows_Model => decide)
    (case nf_Follows_Paper => k_is)
    (case su_Follows_Paper => k_is)
    (case ne_Follows_Paper => decide)
    (case ic_Breaks => k_is)
    (case ty_Breaks => k_is)
    (case nf_Breaks_Count => k_is)
    (case su_Breaks_Count => k_is)
    (case ne_Breaks_Count => decide)
    (case nf_Breaks_Follows => k_is)
    (case su_Breaks_Follows => k_is)
    (case ne_Breaks_Follows => decide)
    (case nf_Breaks_Breaks => k_is)
    (case nf_Breaks_Series => k_is)
    (case su_Breaks_Series => k_is)
    (case ne_Breaks_Series => decide)
    (case nf_Breaks_NoSeries => k_is)
    (case su_Breaks_NoSeries => k_is)
    (case ne_Breaks_NoSeries => decide)
    (case nf_Breaks_Model => k_is)
    (case su_Breaks_Model => k_is)
    (case ne_Breaks_Model => decide)
    (case nf_Breaks_Paper => k_is)
    (case su_Breaks_Paper => k_is)
    (case ne_Breaks_Paper => decide)
    (case ic_Series => k_is)
    (case ty_Series => k_is)
    (case nf_Series_Count => k_is)
    (case su_Series_Count => k_is)
    (case ne_Series_Count => decide)
    (case nf_Series_Follows => k_is)
    (case su_Series_Follows => k_is)
    (case ne_Series_Follows => decide)
    (case nf_Series_Breaks => k_is)
    (case su_Series_Breaks => k_is)
    (case ne_Series_Breaks => decide)
    (case nf_Series_Series => k_is)
    (case nf_Series_NoSeries => k_is)
    (case su_Series_NoSeries => k_is)
    (case ne_Series_NoSeries => decide)
    (case nf_Series_Model => k_is)
    (case su_Series_Model => k_is)
    (case ne_Series_Model => decide)
    (case nf_Series_Paper => k_is)
    (case su_Series_Paper => k_is)
    (case ne_Series_Paper => decide)
    (case ic_NoSeries => k_is)
    (case ty_NoSeries => k_is)
    (case nf_NoSeries_Count => k_is)
    (case su_NoSeries_Count => k_is)
    (case ne_NoSeries_Count => decide)
    (case nf_NoSeries_Follows => k_is)
    (case su_NoSeries_Follows => k_is)
    (case ne_NoSeries_Follows => decide)
    (case nf_NoSeries_Breaks => k_is)
    (case su_NoSeries_Breaks => k_is)
    (case ne_NoSeries_Breaks => decide)
    (case nf_NoSeries_Series => k_is)
    (case su_NoSeries_Series => k_is)
    (case ne_NoSeries_Series => decide)
    (case nf_NoSeries_NoSeries => k_is)
    (case nf_NoSeries_Model => k_is)
    (case su_NoSeries_Model => k_is)
    (case ne_NoSeries_Model => decide)
    (case nf_NoSeries_Paper => k_is)
    (case su_NoSeries_Paper => k_is)
    (case ne_NoSeries_Paper => decide)
    (case ic_Model => k_is)
    (case ty_Model => k_is)
    (case nf_Model_Count => k_is)
    (case su_Model_Count => k_is)
    (case ne_Model_Count => decide)
    (case nf_Model_Follows => k_is)
    (case su_Model_Follows => k_is)
    (case ne_Model_Follows => decide)
    (case nf_Model_Breaks => k_is)
    (case su_Model_Breaks => k_is)
    (case ne_Model_Breaks => decide)
    (case nf_Model_Series => k_is)
    (case su_Model_Series => k_is)
    (case ne_Model_Series => decide)
    (case nf_Model_NoSeries => k_is)
    (case su_Model_NoSeries => k_is)
    (case ne_Model_NoSeries => decide)
    (case nf_Model_Model => k_is)
    (case nf_Model_Paper => k_is)
    (case su_Model_Paper => k_is)
    (case ne_Model_Paper => decide)
    (case ic_Paper => k_is)
    (case ty_Paper => k_is)
    (case nf_Paper_Count => k_is)
    (case su_Paper_Count => k_is)
    (case ne_Paper_Count => decide)
    (case nf_Paper_Follows => k_is)
    (case su_Paper_Follows => k_is)
    (case ne_Paper_Follows => decide)
    (case nf_Paper_Breaks => k_is)
    (case su_Paper_Breaks => k_is)
    (case ne_Paper_Breaks => decide)
    (case nf_Paper_Series => k_is)
    (case su_Paper_Series => k_is)
    (case ne_Paper_Series => decide)
    (case nf_Paper_NoSeries => k_is)
    (case su_Paper_NoSeries => k_is)
    (case ne_Paper_NoSeries => decide)
    (case nf_Paper_Model => k_is)
    (case su_Paper_Model => k_is)
    (case ne_Paper_Model => decide)
    (case nf_Paper_Paper => k_is)
    (case z_len => k_is)
    (case z_repr => k_is)
    (case z_isinstance => k_is)
    (case z_int => k_is)
    (case z_tuple => k_is)
    (case z_list => k_is)
    (case z_range => k_is)
